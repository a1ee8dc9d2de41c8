/- A client's read and poll, at a node that knows of no chain: nothing is said. No statement of the seat is proved in this text. -/
import Derived.Test.YtdpbbppjjjhnoaaGreatDoorNb
set_option linter.unusedSimpArgs false
set_option linter.unusedVariables false
set_option maxRecDepth 100000
namespace Go.Proofs.YtdpbbppjjjhnoaaGreatDoor.D
open Go

abbrev EvC := Ev (look tb) nvNone
abbrev np : Value := .pointer none
abbrev iv (n : Int) : Value := .int .i64 n
abbrev pt (b : Nat) : Value := .pointer (some ⟨b, 0, none⟩)

theorem Ev.st {f : Nat} {vs : List Value} {H : Heap} {v : Value} {H' : Heap} {Q : Value → Heap → Prop} (h : st f vs H = some (v, H')) (q : Q v H') : EvC f vs H Q := Ev.run (k := 500) h q

theorem wE_mupdNew {H : Heap} {m : Nat} {es : List MapEntry} {ck : Nat} {kk : KK} {k v : Value} {Q : Value → Heap → Prop} (hm : At H m (.map es ck)) (hk : keyOk kk k = true) (hf : findD kk k es 0 = some none)
    (q : Q undef (H.set m (.map (es ++ [{ key := k, val := v, born := ck }]) (ck + 1)))) : wE (.mupd kk) [.map (some m), k, v] H Q := by
  refine ⟨undef, _, ?_, q⟩
  simp only [effSem, hk, if_true, hm.get, hf]

theorem wA_mkmap {H : Heap} {Q : Value → Heap → Prop} (q : ∀ m H', Keeps H H' [] → H.next ≤ m → At H' m (.map [] 0) → Q (.map (some m)) H') : wA .mkmap [] H Q :=
  ⟨.map [] 0, fun b => .map (some b), rfl, q _ _ Keeps.push (Nat.le_refl _) At.new⟩

theorem wE_upd {H0 H : Heap} {m : Nat} {es : List MapEntry} {ck : Nat} {kk : KK} {k v : Value} {Q : Value → Heap → Prop} (k0 : Keeps H0 H []) (h0 : H0.next ≤ m) (hm : At H m (.map es ck)) (hk : keyOk kk k = true) (hf : findD kk k es 0 = some none)
    (q : ∀ H', Keeps H0 H' [] → At H' m (.map (es ++ [{ key := k, val := v, born := ck }]) (ck + 1)) → Q undef H') : wE (.mupd kk) [.map (some m), k, v] H Q :=
  wE_mupdNew hm hk hf (q _ (k0.set' (.inr h0)) (At.here hm))

theorem wR_lookYes {H : Heap} {m : Nat} {es : List MapEntry} {ck i : Nat} {kk : KK} {k v zero : Value} {Q : Value → Prop} (hm : At H m (.map es ck)) (hk : keyOk kk k = true) (hf : findD kk k es 0 = some (some (i, v))) (q : Q v) : wR (.lookup kk zero false) [.map (some m), k] H Q := by
  refine ⟨v, ?_, q⟩
  simp only [readSem, hk, if_true, hm.get, hf]
  rfl

theorem wR_lookNo {H : Heap} {m : Nat} {es : List MapEntry} {ck : Nat} {kk : KK} {k zero : Value} {Q : Value → Prop} (hm : At H m (.map es ck)) (hk : keyOk kk k = true) (hf : findD kk k es 0 = some none) (q : Q zero) : wR (.lookup kk zero false) [.map (some m), k] H Q := by
  refine ⟨zero, ?_, q⟩
  simp only [readSem, hk, if_true, hm.get, hf]
  rfl

theorem z44 (f : Value) (H : Heap) : st 44 [.slice none 0 0, f] H = some (iv (-1), H) := by kernel_rfl

theorem s_place0 {H : Heap} {ep : Int} {m : List Value} {Q : Value → Heap → Prop} (q : ∀ H', Keeps H H' [] → Q (iv (-1)) H') : EvC 22 [.agg ⟨[iv ep, .slice none 0 0]⟩, .agg ⟨m⟩] H Q := by
  refine Ev.fn (d := k22) rfl (Nat.le_of_ble_eq_true rfl) ?_
  rw [e22]
  repeat (first | with_reducible refine atK.mk ?_ | with_reducible refine wChk_nil ?_ | with_reducible refine wChk1_nil ?_ | ((with_reducible refine id_wP ?_); first | refine xAdd ?_ | refine xSub ?_ | refine xConv ?_ | refine xMul ?_ | refine wP_max ?_ | refine xIaN ?_ | refine xIaO ?_ | refine xIaU ?_ | refine xBuild ?_ | refine xPure ?_) | ((with_reducible refine id_wR ?_); refine id_new ?_; refine xRead ?_) | ((with_reducible refine id_wA ?_); first | refine xBsl ?_ | refine xAlloc ?_) | ((with_reducible refine id_wE ?_); refine id_newS ?_; refine xStore ?_) | ((with_reducible refine id_asB ?_); first | refine xTt ?_ | refine xFf ?_))
  refine Ev.st (z44 _ _) ?_
  repeat (first | with_reducible refine atK.mk ?_ | with_reducible refine wChk_nil ?_ | with_reducible refine wChk1_nil ?_ | ((with_reducible refine id_wP ?_); first | refine xAdd ?_ | refine xSub ?_ | refine xConv ?_ | refine xMul ?_ | refine wP_max ?_ | refine xIaN ?_ | refine xIaO ?_ | refine xIaU ?_ | refine xBuild ?_ | refine xPure ?_) | ((with_reducible refine id_wR ?_); refine id_new ?_; refine xRead ?_) | ((with_reducible refine id_wA ?_); first | refine xBsl ?_ | refine xAlloc ?_) | ((with_reducible refine id_wE ?_); refine id_newS ?_; refine xStore ?_) | ((with_reducible refine id_asB ?_); first | refine xTt ?_ | refine xFf ?_))
  exact q _ (by exact kp)

theorem s_place {H : Heap} {y : Nat} {Q : Value → Heap → Prop} (hy : At H y (.row yRow 0)) (q : ∀ H', Keeps H H' [] → Q (iv (-1)) H') : EvC 46 [pt y] H Q := by
  refine Ev.fn (d := k46) rfl (Nat.le_of_ble_eq_true rfl) ?_
  rw [e46]
  repeat (first | with_reducible refine atK.mk ?_ | with_reducible refine wChk_nil ?_ | with_reducible refine wChk1_nil ?_ | ((with_reducible refine id_wP ?_); first | refine xAdd ?_ | refine xSub ?_ | refine xConv ?_ | refine xMul ?_ | refine wP_max ?_ | refine xIaN ?_ | refine xIaO ?_ | refine xIaU ?_ | refine xBuild ?_ | refine xPure ?_) | ((with_reducible refine id_wR ?_); refine id_new ?_; refine xRead ?_) | ((with_reducible refine id_wA ?_); first | refine xBsl ?_ | refine xAlloc ?_) | ((with_reducible refine id_wE ?_); refine id_newS ?_; refine xStore ?_) | ((with_reducible refine id_asB ?_); first | refine xTt ?_ | refine xFf ?_))
  refine s_place0 fun H1 k1 => ?_
  repeat (first | with_reducible refine atK.mk ?_ | with_reducible refine wChk_nil ?_ | with_reducible refine wChk1_nil ?_ | ((with_reducible refine id_wP ?_); first | refine xAdd ?_ | refine xSub ?_ | refine xConv ?_ | refine xMul ?_ | refine wP_max ?_ | refine xIaN ?_ | refine xIaO ?_ | refine xIaU ?_ | refine xBuild ?_ | refine xPure ?_) | ((with_reducible refine id_wR ?_); refine id_new ?_; refine xRead ?_) | ((with_reducible refine id_wA ?_); first | refine xBsl ?_ | refine xAlloc ?_) | ((with_reducible refine id_wE ?_); refine id_newS ?_; refine xStore ?_) | ((with_reducible refine id_asB ?_); first | refine xTt ?_ | refine xFf ?_))
  exact q _ k1

theorem s_sits {H : Heap} {y : Nat} {Q : Value → Heap → Prop} (hy : At H y (.row yRow 0)) (q : ∀ H', Keeps H H' [] → Q (.bool false) H') : EvC 24 [pt y] H Q := by
  refine Ev.fn (d := k24) rfl (Nat.le_of_ble_eq_true rfl) ?_
  rw [e24]
  repeat (first | with_reducible refine atK.mk ?_ | with_reducible refine wChk_nil ?_ | with_reducible refine wChk1_nil ?_ | ((with_reducible refine id_wP ?_); first | refine xAdd ?_ | refine xSub ?_ | refine xConv ?_ | refine xMul ?_ | refine wP_max ?_ | refine xIaN ?_ | refine xIaO ?_ | refine xIaU ?_ | refine xBuild ?_ | refine xPure ?_) | ((with_reducible refine id_wR ?_); refine id_new ?_; refine xRead ?_) | ((with_reducible refine id_wA ?_); first | refine xBsl ?_ | refine xAlloc ?_) | ((with_reducible refine id_wE ?_); refine id_newS ?_; refine xStore ?_) | ((with_reducible refine id_asB ?_); first | refine xTt ?_ | refine xFf ?_))
  refine s_place hy fun H1 k1 => ?_
  repeat (first | with_reducible refine atK.mk ?_ | with_reducible refine wChk_nil ?_ | with_reducible refine wChk1_nil ?_ | ((with_reducible refine id_wP ?_); first | refine xAdd ?_ | refine xSub ?_ | refine xConv ?_ | refine xMul ?_ | refine wP_max ?_ | refine xIaN ?_ | refine xIaO ?_ | refine xIaU ?_ | refine xBuild ?_ | refine xPure ?_) | ((with_reducible refine id_wR ?_); refine id_new ?_; refine xRead ?_) | ((with_reducible refine id_wA ?_); first | refine xBsl ?_ | refine xAlloc ?_) | ((with_reducible refine id_wE ?_); refine id_newS ?_; refine xStore ?_) | ((with_reducible refine id_asB ?_); first | refine xTt ?_ | refine xFf ?_))
  exact q _ k1

theorem s_tail {H : Heap} {y : Nat} {Q : Value → Heap → Prop} (hy : At H y (.row yRow 0)) (q : ∀ H', Keeps H H' [] → Q (.bool false) H') : EvC 59 [pt y] H Q := by
  refine Ev.fn (d := k59) rfl (Nat.le_of_ble_eq_true rfl) ?_
  rw [e59]
  repeat (first | with_reducible refine atK.mk ?_ | with_reducible refine wChk_nil ?_ | with_reducible refine wChk1_nil ?_ | ((with_reducible refine id_wP ?_); first | refine xAdd ?_ | refine xSub ?_ | refine xConv ?_ | refine xMul ?_ | refine wP_max ?_ | refine xIaN ?_ | refine xIaO ?_ | refine xIaU ?_ | refine xBuild ?_ | refine xPure ?_) | ((with_reducible refine id_wR ?_); refine id_new ?_; refine xRead ?_) | ((with_reducible refine id_wA ?_); first | refine xBsl ?_ | refine xAlloc ?_) | ((with_reducible refine id_wE ?_); refine id_newS ?_; refine xStore ?_) | ((with_reducible refine id_asB ?_); first | refine xTt ?_ | refine xFf ?_))
  refine s_sits hy fun H1 k1 => ?_
  repeat (first | with_reducible refine atK.mk ?_ | with_reducible refine wChk_nil ?_ | with_reducible refine wChk1_nil ?_ | ((with_reducible refine id_wP ?_); first | refine xAdd ?_ | refine xSub ?_ | refine xConv ?_ | refine xMul ?_ | refine wP_max ?_ | refine xIaN ?_ | refine xIaO ?_ | refine xIaU ?_ | refine xBuild ?_ | refine xPure ?_) | ((with_reducible refine id_wR ?_); refine id_new ?_; refine xRead ?_) | ((with_reducible refine id_wA ?_); first | refine xBsl ?_ | refine xAlloc ?_) | ((with_reducible refine id_wE ?_); refine id_newS ?_; refine xStore ?_) | ((with_reducible refine id_asB ?_); first | refine xTt ?_ | refine xFf ?_))
  exact q _ k1

theorem s_client {H : Heap} {b : Nat} {k fn : Int} {m : M0} {Q : Value → Heap → Prop} (hb : At H b (.row (cells k fn m) 0)) (q : ∀ c, Q (.bool c) H) : EvC 67 [pt b] H Q := by
  refine Ev.fn (d := k67) rfl (Nat.le_of_ble_eq_true rfl) ?_
  rw [e67]
  repeat (first | with_reducible refine atK.mk ?_ | with_reducible refine wChk_nil ?_ | with_reducible refine wChk1_nil ?_ | ((with_reducible refine id_wP ?_); first | refine xAdd ?_ | refine xSub ?_ | refine xConv ?_ | refine xMul ?_ | refine wP_max ?_ | refine xIaN ?_ | refine xIaO ?_ | refine xIaU ?_ | refine xBuild ?_ | refine xPure ?_) | ((with_reducible refine id_wR ?_); refine id_new ?_; refine xRead ?_) | ((with_reducible refine id_wA ?_); first | refine xBsl ?_ | refine xAlloc ?_) | ((with_reducible refine id_wE ?_); refine id_newS ?_; refine xStore ?_) | ((with_reducible refine id_asB ?_); first | refine xTt ?_ | refine xFf ?_))
  exact q _

theorem s_reading {H : Heap} {y b : Nat} {k fn : Int} {m : M0} {now : Value} {Q : Value → Heap → Prop} (hy : At H y (.row yRow 0)) (hb : At H b (.row (cells k fn m) 0)) (q : ∀ H', Keeps H H' [] → Q (.slice none 0 0) H') : EvC 37 [pt y, pt b, now] H Q := by
  refine Ev.fn (d := k37) rfl (Nat.le_of_ble_eq_true rfl) ?_
  rw [e37]
  refine s_client hb fun c => ?_
  cases c with
  | false =>
    repeat (first | with_reducible refine atK.mk ?_ | with_reducible refine wChk_nil ?_ | with_reducible refine wChk1_nil ?_ | ((with_reducible refine id_wP ?_); first | refine xAdd ?_ | refine xSub ?_ | refine xConv ?_ | refine xMul ?_ | refine wP_max ?_ | refine xIaN ?_ | refine xIaO ?_ | refine xIaU ?_ | refine xBuild ?_ | refine xPure ?_) | ((with_reducible refine id_wR ?_); refine id_new ?_; refine xRead ?_) | ((with_reducible refine id_wA ?_); first | refine xBsl ?_ | refine xAlloc ?_) | ((with_reducible refine id_wE ?_); refine id_newS ?_; refine xStore ?_) | ((with_reducible refine id_asB ?_); first | refine xTt ?_ | refine xFf ?_))
    exact q _ Keeps.refl'
  | true =>
    repeat (first | with_reducible refine atK.mk ?_ | with_reducible refine wChk_nil ?_ | with_reducible refine wChk1_nil ?_ | ((with_reducible refine id_wP ?_); first | refine xAdd ?_ | refine xSub ?_ | refine xConv ?_ | refine xMul ?_ | refine wP_max ?_ | refine xIaN ?_ | refine xIaO ?_ | refine xIaU ?_ | refine xBuild ?_ | refine xPure ?_) | ((with_reducible refine id_wR ?_); refine id_new ?_; refine xRead ?_) | ((with_reducible refine id_wA ?_); first | refine xBsl ?_ | refine xAlloc ?_) | ((with_reducible refine id_wE ?_); refine id_newS ?_; refine xStore ?_) | ((with_reducible refine id_asB ?_); first | refine xTt ?_ | refine xFf ?_))
    refine s_sits hy fun H1 k1 => ?_
    repeat (first | with_reducible refine atK.mk ?_ | with_reducible refine wChk_nil ?_ | with_reducible refine wChk1_nil ?_ | ((with_reducible refine id_wP ?_); first | refine xAdd ?_ | refine xSub ?_ | refine xConv ?_ | refine xMul ?_ | refine wP_max ?_ | refine xIaN ?_ | refine xIaO ?_ | refine xIaU ?_ | refine xBuild ?_ | refine xPure ?_) | ((with_reducible refine id_wR ?_); refine id_new ?_; refine xRead ?_) | ((with_reducible refine id_wA ?_); first | refine xBsl ?_ | refine xAlloc ?_) | ((with_reducible refine id_wE ?_); refine id_newS ?_; refine xStore ?_) | ((with_reducible refine id_asB ?_); first | refine xTt ?_ | refine xFf ?_))
    exact q _ k1

theorem s_polls {H : Heap} {y b : Nat} {k fn : Int} {m : M0} {now : Value} {Q : Value → Heap → Prop} (hy : At H y (.row yRow 0)) (hb : At H b (.row (cells k fn m) 0)) (q : ∀ H', Keeps H H' [] → Q (.slice none 0 0) H') : EvC 38 [pt y, pt b, now] H Q := by
  refine Ev.fn (d := k38) rfl (Nat.le_of_ble_eq_true rfl) ?_
  rw [e38]
  refine s_client hb fun c => ?_
  cases c with
  | false =>
    repeat (first | with_reducible refine atK.mk ?_ | with_reducible refine wChk_nil ?_ | with_reducible refine wChk1_nil ?_ | ((with_reducible refine id_wP ?_); first | refine xAdd ?_ | refine xSub ?_ | refine xConv ?_ | refine xMul ?_ | refine wP_max ?_ | refine xIaN ?_ | refine xIaO ?_ | refine xIaU ?_ | refine xBuild ?_ | refine xPure ?_) | ((with_reducible refine id_wR ?_); refine id_new ?_; refine xRead ?_) | ((with_reducible refine id_wA ?_); first | refine xBsl ?_ | refine xAlloc ?_) | ((with_reducible refine id_wE ?_); refine id_newS ?_; refine xStore ?_) | ((with_reducible refine id_asB ?_); first | refine xTt ?_ | refine xFf ?_))
    exact q _ Keeps.refl'
  | true =>
    repeat (first | with_reducible refine atK.mk ?_ | with_reducible refine wChk_nil ?_ | with_reducible refine wChk1_nil ?_ | ((with_reducible refine id_wP ?_); first | refine xAdd ?_ | refine xSub ?_ | refine xConv ?_ | refine xMul ?_ | refine wP_max ?_ | refine xIaN ?_ | refine xIaO ?_ | refine xIaU ?_ | refine xBuild ?_ | refine xPure ?_) | ((with_reducible refine id_wR ?_); refine id_new ?_; refine xRead ?_) | ((with_reducible refine id_wA ?_); first | refine xBsl ?_ | refine xAlloc ?_) | ((with_reducible refine id_wE ?_); refine id_newS ?_; refine xStore ?_) | ((with_reducible refine id_asB ?_); first | refine xTt ?_ | refine xFf ?_))
    refine s_tail hy fun H1 k1 => ?_
    repeat (first | with_reducible refine atK.mk ?_ | with_reducible refine wChk_nil ?_ | with_reducible refine wChk1_nil ?_ | ((with_reducible refine id_wP ?_); first | refine xAdd ?_ | refine xSub ?_ | refine xConv ?_ | refine xMul ?_ | refine wP_max ?_ | refine xIaN ?_ | refine xIaO ?_ | refine xIaU ?_ | refine xBuild ?_ | refine xPure ?_) | ((with_reducible refine id_wR ?_); refine id_new ?_; refine xRead ?_) | ((with_reducible refine id_wA ?_); first | refine xBsl ?_ | refine xAlloc ?_) | ((with_reducible refine id_wE ?_); refine id_newS ?_; refine xStore ?_) | ((with_reducible refine id_asB ?_); first | refine xTt ?_ | refine xFf ?_))
    exact q _ k1

theorem boxM {H : Heap} {k fn : Int} {m : M0} {Q : Value → Heap → Prop} (q : Q (pt H.next) (H.push (.row (cells k fn m) 0))) : wA .box [.agg ⟨cells k fn m⟩] H Q :=
  ⟨.row (cells k fn m) 0, fun b => .pointer (some ⟨b, 0, none⟩), rfl, q⟩

theorem s_take {H : Heap} {y : Nat} {k fn : Int} {m : M0} {now : Value} {Q : Value → Heap → Prop} (hy : At H y (.row yRow 0)) (hk : k = 9 ∨ k = 13) (q : ∀ H', Keeps H H' [] → Q (.slice none 0 0) H') : EvC 9 [pt y, .agg ⟨cells k fn m⟩, now] H Q := by
  refine Ev.fn (d := k9) rfl (Nat.le_of_ble_eq_true rfl) ?_
  rw [e9]
  refine boxM ?_
  have hb : At (H.push (.row (cells k fn m) 0)) H.next (.row (cells k fn m) 0) := At.new
  have hy1 := At.push (Y := .row (cells k fn m) 0) hy
  have kk : Keeps H (H.push (.row (cells k fn m) 0)) [] := by exact kp
  have hlt : H.next < (H.push (.row (cells k fn m) 0)).next := hb.lt
  generalize H.push (.row (cells k fn m) 0) = Hb at hb hy1 kk hlt ⊢
  generalize H.next = b at hb hlt
  clear hy
  repeat (first | with_reducible refine atK.mk ?_ | with_reducible refine wChk_nil ?_ | with_reducible refine wChk1_nil ?_ | ((with_reducible refine id_wP ?_); first | refine xAdd ?_ | refine xSub ?_ | refine xConv ?_ | refine xMul ?_ | refine wP_max ?_ | refine xIaN ?_ | refine xIaO ?_ | refine xIaU ?_ | refine xBuild ?_ | refine xPure ?_) | ((with_reducible refine id_wR ?_); refine id_new ?_; refine xRead ?_) | ((with_reducible refine id_wA ?_); first | refine xBsl ?_ | refine xAlloc ?_) | ((with_reducible refine id_wE ?_); refine id_newS ?_; refine xStore ?_) | ((with_reducible refine id_asB ?_); first | refine xTt ?_ | refine xFf ?_))
  have nA := Nat.le_refl Hb.next
  have kA : Keeps Hb (Hb.push (.map [] 0)) [] := Keeps.push
  have hA : At (Hb.push (.map [] 0)) Hb.next (.map [] 0) := At.new
  generalize Hb.push (.map [] 0) = HA at kA hA ⊢
  obtain ⟨m1, e1⟩ : ∃ m, m = Hb.next := ⟨_, rfl⟩
  rw [← e1] at hA ⊢
  replace nA : Hb.next ≤ m1 := Nat.le_of_eq e1.symm
  refine wE_upd kA nA hA rfl rfl fun HA kA hA => ?_
  repeat (first | with_reducible refine atK.mk ?_ | with_reducible refine wChk_nil ?_ | with_reducible refine wChk1_nil ?_ | ((with_reducible refine id_wP ?_); first | refine xAdd ?_ | refine xSub ?_ | refine xConv ?_ | refine xMul ?_ | refine wP_max ?_ | refine xIaN ?_ | refine xIaO ?_ | refine xIaU ?_ | refine xBuild ?_ | refine xPure ?_) | ((with_reducible refine id_wR ?_); refine id_new ?_; refine xRead ?_) | ((with_reducible refine id_wA ?_); first | refine xBsl ?_ | refine xAlloc ?_) | ((with_reducible refine id_wE ?_); refine id_newS ?_; refine xStore ?_) | ((with_reducible refine id_asB ?_); first | refine xTt ?_ | refine xFf ?_))
  refine wE_upd kA nA hA rfl rfl fun HA kA hA => ?_
  repeat (first | with_reducible refine atK.mk ?_ | with_reducible refine wChk_nil ?_ | with_reducible refine wChk1_nil ?_ | ((with_reducible refine id_wP ?_); first | refine xAdd ?_ | refine xSub ?_ | refine xConv ?_ | refine xMul ?_ | refine wP_max ?_ | refine xIaN ?_ | refine xIaO ?_ | refine xIaU ?_ | refine xBuild ?_ | refine xPure ?_) | ((with_reducible refine id_wR ?_); refine id_new ?_; refine xRead ?_) | ((with_reducible refine id_wA ?_); first | refine xBsl ?_ | refine xAlloc ?_) | ((with_reducible refine id_wE ?_); refine id_newS ?_; refine xStore ?_) | ((with_reducible refine id_asB ?_); first | refine xTt ?_ | refine xFf ?_))
  refine wE_upd kA nA hA rfl rfl fun HA kA hA => ?_
  repeat (first | with_reducible refine atK.mk ?_ | with_reducible refine wChk_nil ?_ | with_reducible refine wChk1_nil ?_ | ((with_reducible refine id_wP ?_); first | refine xAdd ?_ | refine xSub ?_ | refine xConv ?_ | refine xMul ?_ | refine wP_max ?_ | refine xIaN ?_ | refine xIaO ?_ | refine xIaU ?_ | refine xBuild ?_ | refine xPure ?_) | ((with_reducible refine id_wR ?_); refine id_new ?_; refine xRead ?_) | ((with_reducible refine id_wA ?_); first | refine xBsl ?_ | refine xAlloc ?_) | ((with_reducible refine id_wE ?_); refine id_newS ?_; refine xStore ?_) | ((with_reducible refine id_asB ?_); first | refine xTt ?_ | refine xFf ?_))
  refine wE_upd kA nA hA rfl rfl fun HA kA hA => ?_
  repeat (first | with_reducible refine atK.mk ?_ | with_reducible refine wChk_nil ?_ | with_reducible refine wChk1_nil ?_ | ((with_reducible refine id_wP ?_); first | refine xAdd ?_ | refine xSub ?_ | refine xConv ?_ | refine xMul ?_ | refine wP_max ?_ | refine xIaN ?_ | refine xIaO ?_ | refine xIaU ?_ | refine xBuild ?_ | refine xPure ?_) | ((with_reducible refine id_wR ?_); refine id_new ?_; refine xRead ?_) | ((with_reducible refine id_wA ?_); first | refine xBsl ?_ | refine xAlloc ?_) | ((with_reducible refine id_wE ?_); refine id_newS ?_; refine xStore ?_) | ((with_reducible refine id_asB ?_); first | refine xTt ?_ | refine xFf ?_))
  refine wE_upd kA nA hA rfl rfl fun HA kA hA => ?_
  repeat (first | with_reducible refine atK.mk ?_ | with_reducible refine wChk_nil ?_ | with_reducible refine wChk1_nil ?_ | ((with_reducible refine id_wP ?_); first | refine xAdd ?_ | refine xSub ?_ | refine xConv ?_ | refine xMul ?_ | refine wP_max ?_ | refine xIaN ?_ | refine xIaO ?_ | refine xIaU ?_ | refine xBuild ?_ | refine xPure ?_) | ((with_reducible refine id_wR ?_); refine id_new ?_; refine xRead ?_) | ((with_reducible refine id_wA ?_); first | refine xBsl ?_ | refine xAlloc ?_) | ((with_reducible refine id_wE ?_); refine id_newS ?_; refine xStore ?_) | ((with_reducible refine id_asB ?_); first | refine xTt ?_ | refine xFf ?_))
  refine wE_upd kA nA hA rfl rfl fun HA kA hA => ?_
  repeat (first | with_reducible refine atK.mk ?_ | with_reducible refine wChk_nil ?_ | with_reducible refine wChk1_nil ?_ | ((with_reducible refine id_wP ?_); first | refine xAdd ?_ | refine xSub ?_ | refine xConv ?_ | refine xMul ?_ | refine wP_max ?_ | refine xIaN ?_ | refine xIaO ?_ | refine xIaU ?_ | refine xBuild ?_ | refine xPure ?_) | ((with_reducible refine id_wR ?_); refine id_new ?_; refine xRead ?_) | ((with_reducible refine id_wA ?_); first | refine xBsl ?_ | refine xAlloc ?_) | ((with_reducible refine id_wE ?_); refine id_newS ?_; refine xStore ?_) | ((with_reducible refine id_asB ?_); first | refine xTt ?_ | refine xFf ?_))
  have hyA := hy1.keep0 kA
  have hbA := hb.keep0 kA
  have nB := Nat.le_refl HA.next
  have kB : Keeps HA (HA.push (.map [] 0)) [] := Keeps.push
  have hB : At (HA.push (.map [] 0)) HA.next (.map [] 0) := At.new
  generalize HA.push (.map [] 0) = HB at kB hB ⊢
  obtain ⟨m2, e2⟩ : ∃ m, m = HA.next := ⟨_, rfl⟩
  rw [← e2] at hB ⊢
  replace nB : HA.next ≤ m2 := Nat.le_of_eq e2.symm
  refine wE_upd kB nB hB rfl rfl fun HB kB hB => ?_
  repeat (first | with_reducible refine atK.mk ?_ | with_reducible refine wChk_nil ?_ | with_reducible refine wChk1_nil ?_ | ((with_reducible refine id_wP ?_); first | refine xAdd ?_ | refine xSub ?_ | refine xConv ?_ | refine xMul ?_ | refine wP_max ?_ | refine xIaN ?_ | refine xIaO ?_ | refine xIaU ?_ | refine xBuild ?_ | refine xPure ?_) | ((with_reducible refine id_wR ?_); refine id_new ?_; refine xRead ?_) | ((with_reducible refine id_wA ?_); first | refine xBsl ?_ | refine xAlloc ?_) | ((with_reducible refine id_wE ?_); refine id_newS ?_; refine xStore ?_) | ((with_reducible refine id_asB ?_); first | refine xTt ?_ | refine xFf ?_))
  refine wE_upd kB nB hB rfl rfl fun HB kB hB => ?_
  repeat (first | with_reducible refine atK.mk ?_ | with_reducible refine wChk_nil ?_ | with_reducible refine wChk1_nil ?_ | ((with_reducible refine id_wP ?_); first | refine xAdd ?_ | refine xSub ?_ | refine xConv ?_ | refine xMul ?_ | refine wP_max ?_ | refine xIaN ?_ | refine xIaO ?_ | refine xIaU ?_ | refine xBuild ?_ | refine xPure ?_) | ((with_reducible refine id_wR ?_); refine id_new ?_; refine xRead ?_) | ((with_reducible refine id_wA ?_); first | refine xBsl ?_ | refine xAlloc ?_) | ((with_reducible refine id_wE ?_); refine id_newS ?_; refine xStore ?_) | ((with_reducible refine id_asB ?_); first | refine xTt ?_ | refine xFf ?_))
  refine wE_upd kB nB hB rfl rfl fun HB kB hB => ?_
  repeat (first | with_reducible refine atK.mk ?_ | with_reducible refine wChk_nil ?_ | with_reducible refine wChk1_nil ?_ | ((with_reducible refine id_wP ?_); first | refine xAdd ?_ | refine xSub ?_ | refine xConv ?_ | refine xMul ?_ | refine wP_max ?_ | refine xIaN ?_ | refine xIaO ?_ | refine xIaU ?_ | refine xBuild ?_ | refine xPure ?_) | ((with_reducible refine id_wR ?_); refine id_new ?_; refine xRead ?_) | ((with_reducible refine id_wA ?_); first | refine xBsl ?_ | refine xAlloc ?_) | ((with_reducible refine id_wE ?_); refine id_newS ?_; refine xStore ?_) | ((with_reducible refine id_asB ?_); first | refine xTt ?_ | refine xFf ?_))
  refine wE_upd kB nB hB rfl rfl fun HB kB hB => ?_
  repeat (first | with_reducible refine atK.mk ?_ | with_reducible refine wChk_nil ?_ | with_reducible refine wChk1_nil ?_ | ((with_reducible refine id_wP ?_); first | refine xAdd ?_ | refine xSub ?_ | refine xConv ?_ | refine xMul ?_ | refine wP_max ?_ | refine xIaN ?_ | refine xIaO ?_ | refine xIaU ?_ | refine xBuild ?_ | refine xPure ?_) | ((with_reducible refine id_wR ?_); refine id_new ?_; refine xRead ?_) | ((with_reducible refine id_wA ?_); first | refine xBsl ?_ | refine xAlloc ?_) | ((with_reducible refine id_wE ?_); refine id_newS ?_; refine xStore ?_) | ((with_reducible refine id_asB ?_); first | refine xTt ?_ | refine xFf ?_))
  have hyB := hyA.keep0 kB
  have hbB := hbA.keep0 kB
  have hAB := hA.keep0 kB
  have kAll : Keeps H HB [] := kk.comp0 (kA.comp0 kB)
  repeat (first | with_reducible refine atK.mk ?_ | with_reducible refine wChk_nil ?_ | with_reducible refine wChk1_nil ?_ | ((with_reducible refine id_wP ?_); first | refine xAdd ?_ | refine xSub ?_ | refine xConv ?_ | refine xMul ?_ | refine wP_max ?_ | refine xIaN ?_ | refine xIaO ?_ | refine xIaU ?_ | refine xBuild ?_ | refine xPure ?_) | ((with_reducible refine id_wR ?_); refine id_new ?_; refine xRead ?_) | ((with_reducible refine id_wA ?_); first | refine xBsl ?_ | refine xAlloc ?_) | ((with_reducible refine id_wE ?_); refine id_newS ?_; refine xStore ?_) | ((with_reducible refine id_asB ?_); first | refine xTt ?_ | refine xFf ?_))
  rcases hk with rfl | rfl
  · refine wR_lookNo hAB rfl rfl ?_
    repeat (first | with_reducible refine atK.mk ?_ | with_reducible refine wChk_nil ?_ | with_reducible refine wChk1_nil ?_ | ((with_reducible refine id_wP ?_); first | refine xAdd ?_ | refine xSub ?_ | refine xConv ?_ | refine xMul ?_ | refine wP_max ?_ | refine xIaN ?_ | refine xIaO ?_ | refine xIaU ?_ | refine xBuild ?_ | refine xPure ?_) | ((with_reducible refine id_wR ?_); refine id_new ?_; refine xRead ?_) | ((with_reducible refine id_wA ?_); first | refine xBsl ?_ | refine xAlloc ?_) | ((with_reducible refine id_wE ?_); refine id_newS ?_; refine xStore ?_) | ((with_reducible refine id_asB ?_); first | refine xTt ?_ | refine xFf ?_))
    refine wR_lookYes hB rfl rfl ?_
    repeat (first | with_reducible refine atK.mk ?_ | with_reducible refine wChk_nil ?_ | with_reducible refine wChk1_nil ?_ | ((with_reducible refine id_wP ?_); first | refine xAdd ?_ | refine xSub ?_ | refine xConv ?_ | refine xMul ?_ | refine wP_max ?_ | refine xIaN ?_ | refine xIaO ?_ | refine xIaU ?_ | refine xBuild ?_ | refine xPure ?_) | ((with_reducible refine id_wR ?_); refine id_new ?_; refine xRead ?_) | ((with_reducible refine id_wA ?_); first | refine xBsl ?_ | refine xAlloc ?_) | ((with_reducible refine id_wE ?_); refine id_newS ?_; refine xStore ?_) | ((with_reducible refine id_asB ?_); first | refine xTt ?_ | refine xFf ?_))
    refine s_reading hyB hbB fun H1 k1 => ?_
    repeat (first | with_reducible refine atK.mk ?_ | with_reducible refine wChk_nil ?_ | with_reducible refine wChk1_nil ?_ | ((with_reducible refine id_wP ?_); first | refine xAdd ?_ | refine xSub ?_ | refine xConv ?_ | refine xMul ?_ | refine wP_max ?_ | refine xIaN ?_ | refine xIaO ?_ | refine xIaU ?_ | refine xBuild ?_ | refine xPure ?_) | ((with_reducible refine id_wR ?_); refine id_new ?_; refine xRead ?_) | ((with_reducible refine id_wA ?_); first | refine xBsl ?_ | refine xAlloc ?_) | ((with_reducible refine id_wE ?_); refine id_newS ?_; refine xStore ?_) | ((with_reducible refine id_asB ?_); first | refine xTt ?_ | refine xFf ?_))
    exact q _ (kAll.comp0 k1)
  · refine wR_lookNo hAB rfl rfl ?_
    repeat (first | with_reducible refine atK.mk ?_ | with_reducible refine wChk_nil ?_ | with_reducible refine wChk1_nil ?_ | ((with_reducible refine id_wP ?_); first | refine xAdd ?_ | refine xSub ?_ | refine xConv ?_ | refine xMul ?_ | refine wP_max ?_ | refine xIaN ?_ | refine xIaO ?_ | refine xIaU ?_ | refine xBuild ?_ | refine xPure ?_) | ((with_reducible refine id_wR ?_); refine id_new ?_; refine xRead ?_) | ((with_reducible refine id_wA ?_); first | refine xBsl ?_ | refine xAlloc ?_) | ((with_reducible refine id_wE ?_); refine id_newS ?_; refine xStore ?_) | ((with_reducible refine id_asB ?_); first | refine xTt ?_ | refine xFf ?_))
    refine wR_lookYes hB rfl rfl ?_
    repeat (first | with_reducible refine atK.mk ?_ | with_reducible refine wChk_nil ?_ | with_reducible refine wChk1_nil ?_ | ((with_reducible refine id_wP ?_); first | refine xAdd ?_ | refine xSub ?_ | refine xConv ?_ | refine xMul ?_ | refine wP_max ?_ | refine xIaN ?_ | refine xIaO ?_ | refine xIaU ?_ | refine xBuild ?_ | refine xPure ?_) | ((with_reducible refine id_wR ?_); refine id_new ?_; refine xRead ?_) | ((with_reducible refine id_wA ?_); first | refine xBsl ?_ | refine xAlloc ?_) | ((with_reducible refine id_wE ?_); refine id_newS ?_; refine xStore ?_) | ((with_reducible refine id_asB ?_); first | refine xTt ?_ | refine xFf ?_))
    refine s_polls hyB hbB fun H1 k1 => ?_
    repeat (first | with_reducible refine atK.mk ?_ | with_reducible refine wChk_nil ?_ | with_reducible refine wChk1_nil ?_ | ((with_reducible refine id_wP ?_); first | refine xAdd ?_ | refine xSub ?_ | refine xConv ?_ | refine xMul ?_ | refine wP_max ?_ | refine xIaN ?_ | refine xIaO ?_ | refine xIaU ?_ | refine xBuild ?_ | refine xPure ?_) | ((with_reducible refine id_wR ?_); refine id_new ?_; refine xRead ?_) | ((with_reducible refine id_wA ?_); first | refine xBsl ?_ | refine xAlloc ?_) | ((with_reducible refine id_wE ?_); refine id_newS ?_; refine xStore ?_) | ((with_reducible refine id_asB ?_); first | refine xTt ?_ | refine xFf ?_))
    exact q _ (kAll.comp0 k1)
end Go.Proofs.YtdpbbppjjjhnoaaGreatDoor.D
