/- The law ClientAsks, walked. No statement of the seat is proved in this text. -/
import Derived.Test.YtfflfehfjgkcdaaCr
import Derived.Test.YtfflfehfjgkcdaaCf
set_option linter.unusedSimpArgs false
set_option linter.unusedVariables false
set_option maxRecDepth 100000
namespace Go.Proofs.Ytfflfehfjgkcdaa.D
open Go

/-- A call of any kind, the first of a client. -/
theorem s_callA {H : Heap} {x : Nat} {now k id due node : Int} {s : ByteArray} {m : Nat} {Q : Value → Heap → Prop} (hx : At H x (.row (clRow 102 0 (.pointer none) 0 (.slice none 0 0) (.slice none 0 0) (.slice none 0 0) m 0) 0)) (hs : (s.size : Int) ≤ 256)
    (q0 : ¬ (1 ≤ k ∧ k ≤ 3) → ∀ H', Q (.tuple ⟨[.slice none 0 0, iv 1]⟩) H')
    (q1 : 1 ≤ k → k ≤ 3 → ∀ H' c v, Keeps H H' [x] → At H' x (.row (clRow 102 1 (pt c) 0 (.slice none 0 0) (.slice none 0 0) (.slice none 0 0) m 0) 0) → At H' c (.row [iv k, iv id, iv due, iv node, .string s, iv 1, iv now] 0) → x ≠ c → Q (.tuple ⟨[v, iv 0]⟩) H') :
    EvC 10 [pt x, .agg ⟨[iv k, iv id, iv due, iv node, .string s]⟩, iv now] H Q := by
  by_cases hk : 1 ≤ k ∧ k ≤ 3
  · exact s_call hx hk.1 hk.2 hs (by omega) fun H' c v h1 h2 h3 h4 => q1 hk.1 hk.2 H' c v h1 h2 h3 h4
  · have hl := hx.lt
    refine Ev.fn (d := k10) rfl (Nat.le_of_ble_eq_true rfl) ?_
    rw [e10]
    repeat (first | with_reducible refine atK.mk ?_ | with_reducible refine wChk_nil ?_ | with_reducible refine wChk1_nil ?_ | ((with_reducible refine id_wP ?_); first | refine xAdd ?_ | refine xSub ?_ | refine xConv ?_ | refine xMul ?_ | refine wP_max ?_ | refine xIaN ?_ | refine xIaO ?_ | refine xIaU ?_ | refine xBuild ?_ | refine xPure ?_) | ((with_reducible refine id_wR ?_); refine id_new ?_; refine xRead ?_) | ((with_reducible refine id_wA ?_); first | refine xBsl ?_ | refine xAlloc ?_) | ((with_reducible refine id_wE ?_); refine id_newS ?_; refine xStore ?_) | ((with_reducible refine id_asB ?_); first | refine xTt ?_ | refine xFf ?_))
    refine asB_both (fun h => ?_) fun h => ?_
    · repeat (first | with_reducible refine atK.mk ?_ | with_reducible refine wChk_nil ?_ | with_reducible refine wChk1_nil ?_ | ((with_reducible refine id_wP ?_); first | refine xAdd ?_ | refine xSub ?_ | refine xConv ?_ | refine xMul ?_ | refine wP_max ?_ | refine xIaN ?_ | refine xIaO ?_ | refine xIaU ?_ | refine xBuild ?_ | refine xPure ?_) | ((with_reducible refine id_wR ?_); refine id_new ?_; refine xRead ?_) | ((with_reducible refine id_wA ?_); first | refine xBsl ?_ | refine xAlloc ?_) | ((with_reducible refine id_wE ?_); refine id_newS ?_; refine xStore ?_) | ((with_reducible refine id_asB ?_); first | refine xTt ?_ | refine xFf ?_))
      exact q0 hk _
    have h1 : 1 ≤ k := by
      have : ¬ k < 1 := by simpa using h
      omega
    repeat (first | with_reducible refine atK.mk ?_ | with_reducible refine wChk_nil ?_ | with_reducible refine wChk1_nil ?_ | ((with_reducible refine id_wP ?_); first | refine xAdd ?_ | refine xSub ?_ | refine xConv ?_ | refine xMul ?_ | refine wP_max ?_ | refine xIaN ?_ | refine xIaO ?_ | refine xIaU ?_ | refine xBuild ?_ | refine xPure ?_) | ((with_reducible refine id_wR ?_); refine id_new ?_; refine xRead ?_) | ((with_reducible refine id_wA ?_); first | refine xBsl ?_ | refine xAlloc ?_) | ((with_reducible refine id_wE ?_); refine id_newS ?_; refine xStore ?_) | ((with_reducible refine id_asB ?_); first | refine xTt ?_ | refine xFf ?_))
    exact q0 hk _

abbrev fr5 (nw : Int) (cb x kb : Nat) (a1 : Value) (n i : Int) : WFr := mkW [(2, iv nw), (3, pt cb), (7, pt x), (11, pt kb), (58, a1), (59, iv n), (60, iv i)]

/-- What holds between two chains. -/
structure AInv (H : Heap) (x c cb kb m : Nat) (k id due node nw : Int) (s : ByteArray) (ep : Int) (chv kch : Value) (sl : List Se) : Prop where
  ax : At H x (.row (clRow 102 1 (pt c) ep chv (.slice none 0 0) (.slice none 0 0) m 0) 0)
  ac : At H c (.row [iv k, iv id, iv due, iv node, .string s, iv 1, iv nw] 0)
  acb : At H cb (.row [iv k, iv id, iv due, iv node, .string s] 0)
  akb : At H kb (.row [iv ep, kch] 0)
  ach : RSl 3 H chv sl.length (seL sl)
  akch : RSl 3 H kch sl.length (seL sl)
  dis : ∀ b ∈ newOf chv, b ≠ x ∧ b ≠ c ∧ b ≠ cb ∧ b ≠ kb
  old : newOf kch = []
  len : sl.length ≤ 20
  xcb : x ≠ cb
  xkb : x ≠ kb
  xc : x ≠ c
  ckb : c ≠ kb
  cbkb : cb ≠ kb

theorem AInv.keep {H H' : Heap} {x c cb kb m : Nat} {k id due node nw : Int} {s : ByteArray} {ep : Int} {chv kch : Value} {sl : List Se} (h : AInv H x c cb kb m k id due node nw s ep chv kch sl) (kk : Keeps H H' []) : AInv H' x c cb kb m k id due node nw s ep chv kch sl :=
  ⟨h.ax.keep0 kk, h.ac.keep0 kk, h.acb.keep0 kk, h.akb.keep0 kk, h.ach.keep kk (by simp), h.akch.keep kk (by simp), h.dis, h.old, h.len, h.xcb, h.xkb, h.xc, h.ckb, h.cbkb⟩

/-- What a tick asks is what it should. -/
theorem asks_check {H : Heap} {x c cb kb m : Nat} {k id due node nw : Int} {s : ByteArray} {ep n i : Int} {chv kch a1 : Value} {sl : List Se} {K : Kont} (h : AInv H x c cb kb m k id due node nw s ep chv kch sl) (hnw : 0 ≤ nw ∧ nw < 1099511627776) (hk : 1 ≤ k ∧ k ≤ 3) (hi : 0 ≤ i ∧ i ≤ 1000)
    (q : ∀ H', Keeps H H' [] → K .normal (fr5 nw cb x kb a1 n (i + 1)) H') : w5_29 (look tb) nvNone (iv nw) (pt cb) (pt x) (pt kb) a1 (iv n) (iv i) H K := by
  have hxl := h.ax.lt
  have hslen := h.len
  have fin : ∀ H', Keeps H H' [] → w5_59 (look tb) nvNone (iv nw) (pt cb) (pt x) (pt kb) a1 (iv n) (iv i) H' K := by
    intro H' kk
    rw [e5_59]
    repeat (first | with_reducible refine atK.mk ?_ | with_reducible refine wChk_nil ?_ | with_reducible refine wChk1_nil ?_ | ((with_reducible refine id_wP ?_); first | refine xAdd ?_ | refine xSub ?_ | refine xConv ?_ | refine xMul ?_ | refine wP_max ?_ | refine xIaN ?_ | refine xIaO ?_ | refine xIaU ?_ | refine xBuild ?_ | refine xPure ?_) | ((with_reducible refine id_wR ?_); refine id_new ?_; refine xRead ?_) | ((with_reducible refine id_wA ?_); first | refine xBsl ?_ | refine xAlloc ?_) | ((with_reducible refine id_wE ?_); refine id_newS ?_; refine xStore ?_) | ((with_reducible refine id_asB ?_); first | refine xTt ?_ | refine xFf ?_))
    exact q H' kk
  rw [e5_29]
  repeat (first | with_reducible refine atK.mk ?_ | with_reducible refine wChk_nil ?_ | with_reducible refine wChk1_nil ?_ | ((with_reducible refine id_wP ?_); first | refine xAdd ?_ | refine xSub ?_ | refine xConv ?_ | refine xMul ?_ | refine wP_max ?_ | refine xIaN ?_ | refine xIaO ?_ | refine xIaU ?_ | refine xBuild ?_ | refine xPure ?_) | ((with_reducible refine id_wR ?_); refine id_new ?_; refine xRead ?_) | ((with_reducible refine id_wA ?_); first | refine xBsl ?_ | refine xAlloc ?_) | ((with_reducible refine id_wE ?_); refine id_newS ?_; refine xStore ?_) | ((with_reducible refine id_asB ?_); first | refine xTt ?_ | refine xFf ?_))
  refine s_tickA h.ax h.ac h.ach (fun hb => (h.dis x hb).1 rfl) (by omega) (by omega) fun H1 v k1 hv => ?_
  have h1 := h.keep k1
  refine s_config h1.ax h1.ach (by omega) fun H2 v' k2 hv' => ?_
  have h2 := h1.keep k2
  have hkb2 := h2.akb
  have hkbl2 := hkb2.lt
  repeat (first | with_reducible refine atK.mk ?_ | with_reducible refine wChk_nil ?_ | with_reducible refine wChk1_nil ?_ | ((with_reducible refine id_wP ?_); first | refine xAdd ?_ | refine xSub ?_ | refine xConv ?_ | refine xMul ?_ | refine wP_max ?_ | refine xIaN ?_ | refine xIaO ?_ | refine xIaU ?_ | refine xBuild ?_ | refine xPure ?_) | ((with_reducible refine id_wR ?_); refine id_new ?_; refine xRead ?_) | ((with_reducible refine id_wA ?_); first | refine xBsl ?_ | refine xAlloc ?_) | ((with_reducible refine id_wE ?_); refine id_newS ?_; refine xStore ?_) | ((with_reducible refine id_asB ?_); first | refine xTt ?_ | refine xFf ?_))
  refine s_same hv' h2.akch (by omega) fun H3 k3 => ?_
  have h3 := h2.keep k3
  have kk3 := (k1.comp0 k2).comp0 k3
  have hkb := h3.akb
  have hcb := h3.acb
  have hkbl := hkb.lt
  have hcbl := hcb.lt
  have hv3 := (hv.keep k2 (by simp)).keep k3 (by simp)
  repeat (first | with_reducible refine atK.mk ?_ | with_reducible refine wChk_nil ?_ | with_reducible refine wChk1_nil ?_ | ((with_reducible refine id_wP ?_); first | refine xAdd ?_ | refine xSub ?_ | refine xConv ?_ | refine xMul ?_ | refine wP_max ?_ | refine xIaN ?_ | refine xIaO ?_ | refine xIaU ?_ | refine xBuild ?_ | refine xPure ?_) | ((with_reducible refine id_wR ?_); refine id_new ?_; refine xRead ?_) | ((with_reducible refine id_wA ?_); first | refine xBsl ?_ | refine xAlloc ?_) | ((with_reducible refine id_wE ?_); refine id_newS ?_; refine xStore ?_) | ((with_reducible refine id_asB ?_); first | refine xTt ?_ | refine xFf ?_))
  obtain ⟨ka, kcap, hkc⟩ := h3.akch.isLen
  refine ⟨⟨?_, by subst hkc; simp [veq, veqL, veq1]⟩, ?_⟩
  · exact rd_new (b := kb) (cs := [iv ep, kch]) (e := 0) h1.akb rfl
  clear hkc
  repeat (first | with_reducible refine atK.mk ?_ | with_reducible refine wChk_nil ?_ | with_reducible refine wChk1_nil ?_ | ((with_reducible refine id_wP ?_); first | refine xAdd ?_ | refine xSub ?_ | refine xConv ?_ | refine xMul ?_ | refine wP_max ?_ | refine xIaN ?_ | refine xIaO ?_ | refine xIaU ?_ | refine xBuild ?_ | refine xPure ?_) | ((with_reducible refine id_wR ?_); refine id_new ?_; refine xRead ?_) | ((with_reducible refine id_wA ?_); first | refine xBsl ?_ | refine xAlloc ?_) | ((with_reducible refine id_wE ?_); refine id_newS ?_; refine xStore ?_) | ((with_reducible refine id_asB ?_); first | refine xTt ?_ | refine xFf ?_))
  refine h3.akch.lenS ?_
  repeat (first | with_reducible refine atK.mk ?_ | with_reducible refine wChk_nil ?_ | with_reducible refine wChk1_nil ?_ | ((with_reducible refine id_wP ?_); first | refine xAdd ?_ | refine xSub ?_ | refine xConv ?_ | refine xMul ?_ | refine wP_max ?_ | refine xIaN ?_ | refine xIaO ?_ | refine xIaU ?_ | refine xBuild ?_ | refine xPure ?_) | ((with_reducible refine id_wR ?_); refine id_new ?_; refine xRead ?_) | ((with_reducible refine id_wA ?_); first | refine xBsl ?_ | refine xAlloc ?_) | ((with_reducible refine id_wE ?_); refine id_newS ?_; refine xStore ?_) | ((with_reducible refine id_asB ?_); first | refine xTt ?_ | refine xFf ?_))
  refine asB_both (fun h => ?_) fun h => ?_
  · have hnil : sl = [] := by
      have : (sl.length : Int) = 0 := by simpa using h
      exact List.eq_nil_of_length_eq_zero (by omega)
    subst hnil
    refine hv3.lenS ?_
    repeat (first | with_reducible refine atK.mk ?_ | with_reducible refine wChk_nil ?_ | with_reducible refine wChk1_nil ?_ | ((with_reducible refine id_wP ?_); first | refine xAdd ?_ | refine xSub ?_ | refine xConv ?_ | refine xMul ?_ | refine wP_max ?_ | refine xIaN ?_ | refine xIaO ?_ | refine xIaU ?_ | refine xBuild ?_ | refine xPure ?_) | ((with_reducible refine id_wR ?_); refine id_new ?_; refine xRead ?_) | ((with_reducible refine id_wA ?_); first | refine xBsl ?_ | refine xAlloc ?_) | ((with_reducible refine id_wE ?_); refine id_newS ?_; refine xStore ?_) | ((with_reducible refine id_asB ?_); first | refine xTt ?_ | refine xFf ?_))
    refine hv3.iadd (i := 0) (Nat.le_of_ble_eq_true rfl) (msL_at (f := ⟨msg0 15 200 102, rfl⟩) rfl) fun p hp => ?_
    refine (hp _ [] Keeps.refl (by simp)).cell (i := 0) (v := iv 15) rfl ?_
    repeat (first | with_reducible refine atK.mk ?_ | with_reducible refine wChk_nil ?_ | with_reducible refine wChk1_nil ?_ | ((with_reducible refine id_wP ?_); first | refine xAdd ?_ | refine xSub ?_ | refine xConv ?_ | refine xMul ?_ | refine wP_max ?_ | refine xIaN ?_ | refine xIaO ?_ | refine xIaU ?_ | refine xBuild ?_ | refine xPure ?_) | ((with_reducible refine id_wR ?_); refine id_new ?_; refine xRead ?_) | ((with_reducible refine id_wA ?_); first | refine xBsl ?_ | refine xAlloc ?_) | ((with_reducible refine id_wE ?_); refine id_newS ?_; refine xStore ?_) | ((with_reducible refine id_asB ?_); first | refine xTt ?_ | refine xFf ?_))
    refine hv3.iadd (i := 1) (Nat.le_of_ble_eq_true rfl) (msL_at (f := ⟨msg0 15 200 102, rfl⟩) rfl) fun p hp => ?_
    refine (hp _ [] Keeps.refl (by simp)).cell (i := 0) (v := iv 15) rfl ?_
    repeat (first | with_reducible refine atK.mk ?_ | with_reducible refine wChk_nil ?_ | with_reducible refine wChk1_nil ?_ | ((with_reducible refine id_wP ?_); first | refine xAdd ?_ | refine xSub ?_ | refine xConv ?_ | refine xMul ?_ | refine wP_max ?_ | refine xIaN ?_ | refine xIaO ?_ | refine xIaU ?_ | refine xBuild ?_ | refine xPure ?_) | ((with_reducible refine id_wR ?_); refine id_new ?_; refine xRead ?_) | ((with_reducible refine id_wA ?_); first | refine xBsl ?_ | refine xAlloc ?_) | ((with_reducible refine id_wE ?_); refine id_newS ?_; refine xStore ?_) | ((with_reducible refine id_asB ?_); first | refine xTt ?_ | refine xFf ?_))
    exact fin _ kk3
  · have hne : sl.length ≠ 0 := by
      have : ¬ (sl.length : Int) = 0 := by simpa using h
      omega
    obtain ⟨f0, r', hsl⟩ : ∃ f0 r', sl = f0 :: r' := by
      cases sl with
      | nil => exact absurd rfl hne
      | cons f0 r' => exact ⟨f0, r', rfl⟩
    have hil : sl.length - 1 < sl.length := by omega
    obtain ⟨ft, hft⟩ : ∃ f, sl[sl.length - 1]? = some f := ⟨_, List.getElem?_eq_getElem hil⟩
    have hpl : polls 102 0 sl = [⟨msg0 15 200 102, rfl⟩, ⟨msgP ft.node 102 0, rfl⟩] := by simp only [polls, hft]
    have hf0 : sl[0]? = some f0 := by rw [hsl]; rfl
    rw [hpl] at hv3
    refine hv3.lenS ?_
    repeat (first | with_reducible refine atK.mk ?_ | with_reducible refine wChk_nil ?_ | with_reducible refine wChk1_nil ?_ | ((with_reducible refine id_wP ?_); first | refine xAdd ?_ | refine xSub ?_ | refine xConv ?_ | refine xMul ?_ | refine wP_max ?_ | refine xIaN ?_ | refine xIaO ?_ | refine xIaU ?_ | refine xBuild ?_ | refine xPure ?_) | ((with_reducible refine id_wR ?_); refine id_new ?_; refine xRead ?_) | ((with_reducible refine id_wA ?_); first | refine xBsl ?_ | refine xAlloc ?_) | ((with_reducible refine id_wE ?_); refine id_newS ?_; refine xStore ?_) | ((with_reducible refine id_asB ?_); first | refine xTt ?_ | refine xFf ?_))
    refine hv3.iadd (i := 1) (Nat.le_of_ble_eq_true rfl) (msL_at (f := ⟨msg0 15 200 102, rfl⟩) rfl) fun p hp => ?_
    refine (hp _ [] Keeps.refl (by simp)).cell (i := 0) (v := iv 15) rfl ?_
    repeat (first | with_reducible refine atK.mk ?_ | with_reducible refine wChk_nil ?_ | with_reducible refine wChk1_nil ?_ | ((with_reducible refine id_wP ?_); first | refine xAdd ?_ | refine xSub ?_ | refine xConv ?_ | refine xMul ?_ | refine wP_max ?_ | refine xIaN ?_ | refine xIaO ?_ | refine xIaU ?_ | refine xBuild ?_ | refine xPure ?_) | ((with_reducible refine id_wR ?_); refine id_new ?_; refine xRead ?_) | ((with_reducible refine id_wA ?_); first | refine xBsl ?_ | refine xAlloc ?_) | ((with_reducible refine id_wE ?_); refine id_newS ?_; refine xStore ?_) | ((with_reducible refine id_asB ?_); first | refine xTt ?_ | refine xFf ?_))
    refine hv3.iadd (i := 2) (Nat.le_of_ble_eq_true rfl) (msL_at (f := ⟨msgP ft.node 102 0, rfl⟩) rfl) fun p hp => ?_
    refine (hp _ [] Keeps.refl (by simp)).cell (i := 0) (v := iv 13) rfl ?_
    repeat (first | with_reducible refine atK.mk ?_ | with_reducible refine wChk_nil ?_ | with_reducible refine wChk1_nil ?_ | ((with_reducible refine id_wP ?_); first | refine xAdd ?_ | refine xSub ?_ | refine xConv ?_ | refine xMul ?_ | refine wP_max ?_ | refine xIaN ?_ | refine xIaO ?_ | refine xIaU ?_ | refine xBuild ?_ | refine xPure ?_) | ((with_reducible refine id_wR ?_); refine id_new ?_; refine xRead ?_) | ((with_reducible refine id_wA ?_); first | refine xBsl ?_ | refine xAlloc ?_) | ((with_reducible refine id_wE ?_); refine id_newS ?_; refine xStore ?_) | ((with_reducible refine id_asB ?_); first | refine xTt ?_ | refine xFf ?_))
    refine hv3.iadd (i := 2) (Nat.le_of_ble_eq_true rfl) (msL_at (f := ⟨msgP ft.node 102 0, rfl⟩) rfl) fun p hp => ?_
    refine (hp _ [] Keeps.refl (by simp)).cell (i := 1) (v := iv ft.node) rfl ?_
    repeat (first | with_reducible refine atK.mk ?_ | with_reducible refine wChk_nil ?_ | with_reducible refine wChk1_nil ?_ | ((with_reducible refine id_wP ?_); first | refine xAdd ?_ | refine xSub ?_ | refine xConv ?_ | refine xMul ?_ | refine wP_max ?_ | refine xIaN ?_ | refine xIaO ?_ | refine xIaU ?_ | refine xBuild ?_ | refine xPure ?_) | ((with_reducible refine id_wR ?_); refine id_new ?_; refine xRead ?_) | ((with_reducible refine id_wA ?_); first | refine xBsl ?_ | refine xAlloc ?_) | ((with_reducible refine id_wE ?_); refine id_newS ?_; refine xStore ?_) | ((with_reducible refine id_asB ?_); first | refine xTt ?_ | refine xFf ?_))
    refine h3.akch.lenS ?_
    repeat (first | with_reducible refine atK.mk ?_ | with_reducible refine wChk_nil ?_ | with_reducible refine wChk1_nil ?_ | ((with_reducible refine id_wP ?_); first | refine xAdd ?_ | refine xSub ?_ | refine xConv ?_ | refine xMul ?_ | refine wP_max ?_ | refine xIaN ?_ | refine xIaO ?_ | refine xIaU ?_ | refine xBuild ?_ | refine xPure ?_) | ((with_reducible refine id_wR ?_); refine id_new ?_; refine xRead ?_) | ((with_reducible refine id_wA ?_); first | refine xBsl ?_ | refine xAlloc ?_) | ((with_reducible refine id_wE ?_); refine id_newS ?_; refine xStore ?_) | ((with_reducible refine id_asB ?_); first | refine xTt ?_ | refine xFf ?_))
    have e1 : (sl.length : Int) - 1 = ((sl.length - 1 : Nat) : Int) := by omega
    rw [e1]
    refine h3.akch.iadd hil (seL_at hft) fun p hp => ?_
    refine (hp _ [] Keeps.refl (by simp)).fadd (i := 0) (m := 2) (ds := [iv ft.node, iv ft.life]) rfl (by omega) fun p2 hp2 => ?_
    refine hp2.cell (i := 0) (v := iv ft.node) rfl ?_
    repeat (first | with_reducible refine atK.mk ?_ | with_reducible refine wChk_nil ?_ | with_reducible refine wChk1_nil ?_ | ((with_reducible refine id_wP ?_); first | refine xAdd ?_ | refine xSub ?_ | refine xConv ?_ | refine xMul ?_ | refine wP_max ?_ | refine xIaN ?_ | refine xIaO ?_ | refine xIaU ?_ | refine xBuild ?_ | refine xPure ?_) | ((with_reducible refine id_wR ?_); refine id_new ?_; refine xRead ?_) | ((with_reducible refine id_wA ?_); first | refine xBsl ?_ | refine xAlloc ?_) | ((with_reducible refine id_wE ?_); refine id_newS ?_; refine xStore ?_) | ((with_reducible refine id_asB ?_); first | refine xTt ?_ | refine xFf ?_))
    refine asB_ff (by simp) ?_
    repeat (first | with_reducible refine atK.mk ?_ | with_reducible refine wChk_nil ?_ | with_reducible refine wChk1_nil ?_ | ((with_reducible refine id_wP ?_); first | refine xAdd ?_ | refine xSub ?_ | refine xConv ?_ | refine xMul ?_ | refine wP_max ?_ | refine xIaN ?_ | refine xIaO ?_ | refine xIaU ?_ | refine xBuild ?_ | refine xPure ?_) | ((with_reducible refine id_wR ?_); refine id_new ?_; refine xRead ?_) | ((with_reducible refine id_wA ?_); first | refine xBsl ?_ | refine xAlloc ?_) | ((with_reducible refine id_wE ?_); refine id_newS ?_; refine xStore ?_) | ((with_reducible refine id_asB ?_); first | refine xTt ?_ | refine xFf ?_))
    refine hv3.iadd (i := 0) (Nat.le_of_ble_eq_true rfl) (msL_at (f := askM k id due node 1 102 s sl) rfl) fun p hp => ?_
    refine (hp _ [] Keeps.refl (by simp)).load ?_
    by_cases hk3 : k = 3
    · subst hk3
      have e : (askM 3 id due node 1 102 s sl).c = msgR (meant node sl) 102 1 id := by rw [hsl]; simp only [askM, if_true]
      have hix : (max node 0).toNat % sl.length < sl.length := Nat.mod_lt _ (by omega)
      obtain ⟨fm, hfm⟩ : ∃ f, sl[(max node 0).toNat % sl.length]? = some f := ⟨_, List.getElem?_eq_getElem hix⟩
      have hme : meant node sl = fm.node := by simp only [meant, hfm]
      rw [e, hme]
      have hkx := h3.akch
      repeat (first | with_reducible refine atK.mk ?_ | with_reducible refine wChk_nil ?_ | with_reducible refine wChk1_nil ?_ | ((with_reducible refine id_wP ?_); first | refine xAdd ?_ | refine xSub ?_ | refine xConv ?_ | refine xMul ?_ | refine wP_max ?_ | refine xIaN ?_ | refine xIaO ?_ | refine xIaU ?_ | refine xBuild ?_ | refine xPure ?_) | ((with_reducible refine id_wR ?_); refine id_new ?_; refine xRead ?_) | ((with_reducible refine id_wA ?_); first | refine xBsl ?_ | refine xAlloc ?_) | ((with_reducible refine id_wE ?_); refine id_newS ?_; refine xStore ?_) | ((with_reducible refine id_asB ?_); first | refine xTt ?_ | refine xFf ?_))
      refine asB_ff (by simp) ?_
      repeat (first | with_reducible refine atK.mk ?_ | with_reducible refine wChk_nil ?_ | with_reducible refine wChk1_nil ?_ | ((with_reducible refine id_wP ?_); first | refine xAdd ?_ | refine xSub ?_ | refine xConv ?_ | refine xMul ?_ | refine wP_max ?_ | refine xIaN ?_ | refine xIaO ?_ | refine xIaU ?_ | refine xBuild ?_ | refine xPure ?_) | ((with_reducible refine id_wR ?_); refine id_new ?_; refine xRead ?_) | ((with_reducible refine id_wA ?_); first | refine xBsl ?_ | refine xAlloc ?_) | ((with_reducible refine id_wE ?_); refine id_newS ?_; refine xStore ?_) | ((with_reducible refine id_asB ?_); first | refine xTt ?_ | refine xFf ?_))
      have kk4 : Keeps H3 ((H3.push (.row (msg0 0 0 0) 0)).set H3.next (.row (msgR fm.node 102 1 id) 0)) [] := by exact kp
      have hk4 := hkx.keep kk4 (by simp)
      refine hk4.lenS ?_
      refine wP_remN (by omega) hne ?_
      refine hk4.iadd hix (seL_at hfm) fun p3 hp3 => ?_
      refine (hp3 _ [] Keeps.refl (by simp)).fadd (i := 0) (m := 2) (ds := [iv fm.node, iv fm.life]) rfl (by omega) fun p4 hp4 => ?_
      refine hp4.cell (i := 0) (v := iv fm.node) rfl ?_
      repeat (first | with_reducible refine atK.mk ?_ | with_reducible refine wChk_nil ?_ | with_reducible refine wChk1_nil ?_ | ((with_reducible refine id_wP ?_); first | refine xAdd ?_ | refine xSub ?_ | refine xConv ?_ | refine xMul ?_ | refine wP_max ?_ | refine xIaN ?_ | refine xIaO ?_ | refine xIaU ?_ | refine xBuild ?_ | refine xPure ?_) | ((with_reducible refine id_wR ?_); refine id_new ?_; refine xRead ?_) | ((with_reducible refine id_wA ?_); first | refine xBsl ?_ | refine xAlloc ?_) | ((with_reducible refine id_wE ?_); refine id_newS ?_; refine xStore ?_) | ((with_reducible refine id_asB ?_); first | refine xTt ?_ | refine xFf ?_))
      refine asB_ff (by simp) ?_
      repeat (first | with_reducible refine atK.mk ?_ | with_reducible refine wChk_nil ?_ | with_reducible refine wChk1_nil ?_ | ((with_reducible refine id_wP ?_); first | refine xAdd ?_ | refine xSub ?_ | refine xConv ?_ | refine xMul ?_ | refine wP_max ?_ | refine xIaN ?_ | refine xIaO ?_ | refine xIaU ?_ | refine xBuild ?_ | refine xPure ?_) | ((with_reducible refine id_wR ?_); refine id_new ?_; refine xRead ?_) | ((with_reducible refine id_wA ?_); first | refine xBsl ?_ | refine xAlloc ?_) | ((with_reducible refine id_wE ?_); refine id_newS ?_; refine xStore ?_) | ((with_reducible refine id_asB ?_); first | refine xTt ?_ | refine xFf ?_))
      exact fin _ (kk3.comp0 kk4)
    · by_cases hk1 : k = 1
      · subst hk1
        have e : (askM 1 id due node 1 102 s sl).c = msgS f0.node 102 1 id due s := by rw [hsl]; simp [askM]
        rw [e]
        repeat (first | with_reducible refine atK.mk ?_ | with_reducible refine wChk_nil ?_ | with_reducible refine wChk1_nil ?_ | ((with_reducible refine id_wP ?_); first | refine xAdd ?_ | refine xSub ?_ | refine xConv ?_ | refine xMul ?_ | refine wP_max ?_ | refine xIaN ?_ | refine xIaO ?_ | refine xIaU ?_ | refine xBuild ?_ | refine xPure ?_) | ((with_reducible refine id_wR ?_); refine id_new ?_; refine xRead ?_) | ((with_reducible refine id_wA ?_); first | refine xBsl ?_ | refine xAlloc ?_) | ((with_reducible refine id_wE ?_); refine id_newS ?_; refine xStore ?_) | ((with_reducible refine id_asB ?_); first | refine xTt ?_ | refine xFf ?_))
        have kk4 : Keeps H3 ((H3.push (.row (msg0 0 0 0) 0)).set H3.next (.row (msgS f0.node 102 1 id due s) 0)) [] := by exact kp
        have hk4 := h3.akch.keep kk4 (by simp)
        refine hk4.iadd (i := 0) (by omega) (seL_at hf0) fun p3 hp3 => ?_
        refine (hp3 _ [] Keeps.refl (by simp)).fadd (i := 0) (m := 2) (ds := [iv f0.node, iv f0.life]) rfl (by omega) fun p4 hp4 => ?_
        refine hp4.cell (i := 0) (v := iv f0.node) rfl ?_
        repeat (first | with_reducible refine atK.mk ?_ | with_reducible refine wChk_nil ?_ | with_reducible refine wChk1_nil ?_ | ((with_reducible refine id_wP ?_); first | refine xAdd ?_ | refine xSub ?_ | refine xConv ?_ | refine xMul ?_ | refine wP_max ?_ | refine xIaN ?_ | refine xIaO ?_ | refine xIaU ?_ | refine xBuild ?_ | refine xPure ?_) | ((with_reducible refine id_wR ?_); refine id_new ?_; refine xRead ?_) | ((with_reducible refine id_wA ?_); first | refine xBsl ?_ | refine xAlloc ?_) | ((with_reducible refine id_wE ?_); refine id_newS ?_; refine xStore ?_) | ((with_reducible refine id_asB ?_); first | refine xTt ?_ | refine xFf ?_))
        refine asB_ff (by simp) ?_
        repeat (first | with_reducible refine atK.mk ?_ | with_reducible refine wChk_nil ?_ | with_reducible refine wChk1_nil ?_ | ((with_reducible refine id_wP ?_); first | refine xAdd ?_ | refine xSub ?_ | refine xConv ?_ | refine xMul ?_ | refine wP_max ?_ | refine xIaN ?_ | refine xIaO ?_ | refine xIaU ?_ | refine xBuild ?_ | refine xPure ?_) | ((with_reducible refine id_wR ?_); refine id_new ?_; refine xRead ?_) | ((with_reducible refine id_wA ?_); first | refine xBsl ?_ | refine xAlloc ?_) | ((with_reducible refine id_wE ?_); refine id_newS ?_; refine xStore ?_) | ((with_reducible refine id_asB ?_); first | refine xTt ?_ | refine xFf ?_))
        refine wP_aggEq (r := true) rfl rfl (by simp [eqCells, eq1]) ?_
        repeat (first | with_reducible refine atK.mk ?_ | with_reducible refine wChk_nil ?_ | with_reducible refine wChk1_nil ?_ | ((with_reducible refine id_wP ?_); first | refine xAdd ?_ | refine xSub ?_ | refine xConv ?_ | refine xMul ?_ | refine wP_max ?_ | refine xIaN ?_ | refine xIaO ?_ | refine xIaU ?_ | refine xBuild ?_ | refine xPure ?_) | ((with_reducible refine id_wR ?_); refine id_new ?_; refine xRead ?_) | ((with_reducible refine id_wA ?_); first | refine xBsl ?_ | refine xAlloc ?_) | ((with_reducible refine id_wE ?_); refine id_newS ?_; refine xStore ?_) | ((with_reducible refine id_asB ?_); first | refine xTt ?_ | refine xFf ?_))
        exact fin _ (kk3.comp0 kk4)
      · have e : (askM k id due node 1 102 s sl).c = msgX f0.node 102 1 id := by rw [hsl]; simp only [askM, if_neg hk3, if_neg hk1]
        rw [e]
        repeat (first | with_reducible refine atK.mk ?_ | with_reducible refine wChk_nil ?_ | with_reducible refine wChk1_nil ?_ | ((with_reducible refine id_wP ?_); first | refine xAdd ?_ | refine xSub ?_ | refine xConv ?_ | refine xMul ?_ | refine wP_max ?_ | refine xIaN ?_ | refine xIaO ?_ | refine xIaU ?_ | refine xBuild ?_ | refine xPure ?_) | ((with_reducible refine id_wR ?_); refine id_new ?_; refine xRead ?_) | ((with_reducible refine id_wA ?_); first | refine xBsl ?_ | refine xAlloc ?_) | ((with_reducible refine id_wE ?_); refine id_newS ?_; refine xStore ?_) | ((with_reducible refine id_asB ?_); first | refine xTt ?_ | refine xFf ?_))
        have kk4 : Keeps H3 ((H3.push (.row (msg0 0 0 0) 0)).set H3.next (.row (msgX f0.node 102 1 id) 0)) [] := by exact kp
        have hk4 := h3.akch.keep kk4 (by simp)
        refine hk4.iadd (i := 0) (by omega) (seL_at hf0) fun p3 hp3 => ?_
        refine (hp3 _ [] Keeps.refl (by simp)).fadd (i := 0) (m := 2) (ds := [iv f0.node, iv f0.life]) rfl (by omega) fun p4 hp4 => ?_
        refine hp4.cell (i := 0) (v := iv f0.node) rfl ?_
        repeat (first | with_reducible refine atK.mk ?_ | with_reducible refine wChk_nil ?_ | with_reducible refine wChk1_nil ?_ | ((with_reducible refine id_wP ?_); first | refine xAdd ?_ | refine xSub ?_ | refine xConv ?_ | refine xMul ?_ | refine wP_max ?_ | refine xIaN ?_ | refine xIaO ?_ | refine xIaU ?_ | refine xBuild ?_ | refine xPure ?_) | ((with_reducible refine id_wR ?_); refine id_new ?_; refine xRead ?_) | ((with_reducible refine id_wA ?_); first | refine xBsl ?_ | refine xAlloc ?_) | ((with_reducible refine id_wE ?_); refine id_newS ?_; refine xStore ?_) | ((with_reducible refine id_asB ?_); first | refine xTt ?_ | refine xFf ?_))
        refine asB_ff (by simp) ?_
        repeat (first | with_reducible refine atK.mk ?_ | with_reducible refine wChk_nil ?_ | with_reducible refine wChk1_nil ?_ | ((with_reducible refine id_wP ?_); first | refine xAdd ?_ | refine xSub ?_ | refine xConv ?_ | refine xMul ?_ | refine wP_max ?_ | refine xIaN ?_ | refine xIaO ?_ | refine xIaU ?_ | refine xBuild ?_ | refine xPure ?_) | ((with_reducible refine id_wR ?_); refine id_new ?_; refine xRead ?_) | ((with_reducible refine id_wA ?_); first | refine xBsl ?_ | refine xAlloc ?_) | ((with_reducible refine id_wE ?_); refine id_newS ?_; refine xStore ?_) | ((with_reducible refine id_asB ?_); first | refine xTt ?_ | refine xFf ?_))
        refine wP_aggEq (r := true) rfl rfl (by simp [eqCells, eq1]) ?_
        repeat (first | with_reducible refine atK.mk ?_ | with_reducible refine wChk_nil ?_ | with_reducible refine wChk1_nil ?_ | ((with_reducible refine id_wP ?_); first | refine xAdd ?_ | refine xSub ?_ | refine xConv ?_ | refine xMul ?_ | refine wP_max ?_ | refine xIaN ?_ | refine xIaO ?_ | refine xIaU ?_ | refine xBuild ?_ | refine xPure ?_) | ((with_reducible refine id_wR ?_); refine id_new ?_; refine xRead ?_) | ((with_reducible refine id_wA ?_); first | refine xBsl ?_ | refine xAlloc ?_) | ((with_reducible refine id_wE ?_); refine id_newS ?_; refine xStore ?_) | ((with_reducible refine id_asB ?_); first | refine xTt ?_ | refine xFf ?_))
        exact fin _ (kk3.comp0 kk4)

end Go.Proofs.Ytfflfehfjgkcdaa.D
