/- The client's functions: what it asks as long as a call is pending. No statement of the seat is proved in this text. -/
import Derived.Test.YtfflfehfjgkcdaaCq
set_option linter.unusedSimpArgs false
set_option linter.unusedVariables false
set_option maxRecDepth 100000
namespace Go.Proofs.Ytfflfehfjgkcdaa.D
open Go

abbrev msgR (to a r id : Int) : List Value := [iv 9, iv to, iv a, iv 0, iv 0, iv 0, iv r, iv 0, iv id, iv 0, .bool false, iv 0, iv 0, iv 0, iv 0, iv 0, iv 0, iv 0, iv 0, iv 0, .string ⟨⟨[]⟩⟩, iv 0, iv 0, iv 0, iv 0, .slice none 0 0, .slice none 0 0, iv 0]
abbrev msgS (to a r id due : Int) (s : ByteArray) : List Value := [iv 7, iv to, iv a, iv 0, iv 0, iv 0, iv 0, iv 0, iv 0, iv 0, .bool false, iv 1, iv a, iv r, iv id, iv 0, iv 0, iv due, iv 0, iv 0, .string s, iv 0, iv 0, iv 0, iv 0, .slice none 0 0, .slice none 0 0, iv 0]
abbrev msgX (to a r id : Int) : List Value := [iv 7, iv to, iv a, iv 0, iv 0, iv 0, iv 0, iv 0, iv 0, iv 0, .bool false, iv 2, iv a, iv r, iv id, iv 0, iv 0, iv 0, iv 0, iv 0, .string ⟨⟨[]⟩⟩, iv 0, iv 0, iv 0, iv 0, .slice none 0 0, .slice none 0 0, iv 0]

theorem rd_new {H : Heap} {b o n : Nat} {agg : Bool} {cs : List Value} {e : Nat} {v : Value} (hb : At H b (.row cs e)) (hv : ldv cs o n agg = some v) : readSem (.load n agg) [.pointer (some ⟨b, o, none⟩)] H = some v := by
  simp only [readSem, Heap.cells, hb.get]
  exact hv

/-- The node that is meant by a read. -/
def meant (node : Int) (sl : List Se) : Int := match sl[(max node 0).toNat % sl.length]? with | some f => f.node | none => 0

def askM (k id due node r a : Int) (s : ByteArray) (sl : List Se) : Ms :=
  match sl with
  | [] => ⟨msg0 15 200 a, rfl⟩
  | f :: r' => if k = 3 then ⟨msgR (meant node (f :: r')) a r id, rfl⟩ else if k = 1 then ⟨msgS f.node a r id due s, rfl⟩ else ⟨msgX f.node a r id, rfl⟩

theorem askM_one (k id due node r a : Int) (s : ByteArray) (sl : List Se) : (askM k id due node r a s sl).c.all oneC = true := by
  unfold askM
  split
  · rfl
  · split
    · rfl
    · split <;> rfl

theorem s_ask {H : Heap} {x c : Nat} {a ep cu k id due node r bg : Int} {s : ByteArray} {c1 chv c5 c6 c7 : Value} {sl : List Se} {Q : Value → Heap → Prop} (hx : At H x (.row [iv a, c1, pt c, iv ep, chv, c5, c6, c7, iv cu] 0))
    (hc : At H c (.row [iv k, iv id, iv due, iv node, .string s, iv r, iv bg] 0)) (hr : RSl 3 H chv sl.length (seL sl))
    (q : ∀ H' b, Keeps H H' [] → At H' b (.row (askM k id due node r a s sl).c 28) → H.next ≤ b → Q (.slice (some ⟨b, 0, none⟩) 1 1) H') : EvC 22 [pt x] H Q := by
  have hxl := hx.lt
  have hcl := hc.lt
  have ho := hr.isOne
  refine Ev.fn (d := k22) rfl (Nat.le_of_ble_eq_true rfl) ?_
  rw [e22]
  repeat (first | with_reducible refine atK.mk ?_ | with_reducible refine wChk_nil ?_ | with_reducible refine wChk1_nil ?_ | ((with_reducible refine id_wP ?_); first | refine xAdd ?_ | refine xSub ?_ | refine xConv ?_ | refine xMul ?_ | refine wP_max ?_ | refine xIaN ?_ | refine xIaO ?_ | refine xIaU ?_ | refine xBuild ?_ | refine xPure ?_) | ((with_reducible refine id_wR ?_); refine id_new ?_; refine xRead ?_) | ((with_reducible refine id_wA ?_); first | refine xBsl ?_ | refine xAlloc ?_) | ((with_reducible refine id_wE ?_); refine id_newS ?_; refine xStore ?_) | ((with_reducible refine id_asB ?_); first | refine xTt ?_ | refine xFf ?_))
  refine s_head hr (fun hnil H1 k1 => ?_) fun f hf H1 k1 => ?_
  · subst hnil
    have hx1 := hx.keep0 k1
    have hxl1 := hx1.lt
    have hn1 := k1.next
    repeat (first | with_reducible refine atK.mk ?_ | with_reducible refine wChk_nil ?_ | with_reducible refine wChk1_nil ?_ | ((with_reducible refine id_wP ?_); first | refine xAdd ?_ | refine xSub ?_ | refine xConv ?_ | refine xMul ?_ | refine wP_max ?_ | refine xIaN ?_ | refine xIaO ?_ | refine xIaU ?_ | refine xBuild ?_ | refine xPure ?_) | ((with_reducible refine id_wR ?_); refine id_new ?_; refine xRead ?_) | ((with_reducible refine id_wA ?_); first | refine xBsl ?_ | refine xAlloc ?_) | ((with_reducible refine id_wE ?_); refine id_newS ?_; refine xStore ?_) | ((with_reducible refine id_asB ?_); first | refine xTt ?_ | refine xFf ?_))
    refine s_from (a := a) (by exact atp) fun H2 k2 => ?_
    have k12 : Keeps H H2 [] := Keeps.comp0 (Ha := (H1.push (.row [iv 0, iv 0] 0)).set H1.next (.row [iv 0, iv 0] 0)) (k1.comp0 (by exact kp)) k2
    have hn2 := k12.next
    repeat (first | with_reducible refine atK.mk ?_ | with_reducible refine wChk_nil ?_ | with_reducible refine wChk1_nil ?_ | ((with_reducible refine id_wP ?_); first | refine xAdd ?_ | refine xSub ?_ | refine xConv ?_ | refine xMul ?_ | refine wP_max ?_ | refine xIaN ?_ | refine xIaO ?_ | refine xIaU ?_ | refine xBuild ?_ | refine xPure ?_) | ((with_reducible refine id_wR ?_); refine id_new ?_; refine xRead ?_) | ((with_reducible refine id_wA ?_); first | refine xBsl ?_ | refine xAlloc ?_) | ((with_reducible refine id_wE ?_); refine id_newS ?_; refine xStore ?_) | ((with_reducible refine id_asB ?_); first | refine xTt ?_ | refine xFf ?_))
    exact q _ H2.next (Keeps.push' k12) At.new (by omega)
  · have hne : sl.length ≠ 0 := by
      intro e
      rw [List.eq_nil_of_length_eq_zero e] at hf
      cases hf
    obtain ⟨g, r', rfl⟩ : ∃ g r', sl = g :: r' := by
      cases sl with
      | nil => exact absurd rfl hne
      | cons g r' => exact ⟨g, r', rfl⟩
    simp only [List.getElem?_cons_zero, Option.some.injEq] at hf
    subst hf
    have hx1 := hx.keep0 k1
    have hc1 := hc.keep0 k1
    have hr1 := hr.keep k1 (by simp)
    have hxl1 := hx1.lt
    have hcl1 := hc1.lt
    have hn1 := k1.next
    have hxc : x ≠ c := hx.ne hc (by simp)
    have kk1 : Keeps H ((H1.push (.row [iv 0, iv 0] 0)).set H1.next (.row [iv g.node, iv g.life] 0)) [] := k1.comp0 (by exact kp)
    have hhd : At ((H1.push (.row [iv 0, iv 0] 0)).set H1.next (.row [iv g.node, iv g.life] 0)) H1.next (.row [iv g.node, iv g.life] 0) := by exact atp
    have hr2 := hr.keep kk1 (by simp)
    repeat (first | with_reducible refine atK.mk ?_ | with_reducible refine wChk_nil ?_ | with_reducible refine wChk1_nil ?_ | ((with_reducible refine id_wP ?_); first | refine xAdd ?_ | refine xSub ?_ | refine xConv ?_ | refine xMul ?_ | refine wP_max ?_ | refine xIaN ?_ | refine xIaO ?_ | refine xIaU ?_ | refine xBuild ?_ | refine xPure ?_) | ((with_reducible refine id_wR ?_); refine id_new ?_; refine xRead ?_) | ((with_reducible refine id_wA ?_); first | refine xBsl ?_ | refine xAlloc ?_) | ((with_reducible refine id_wE ?_); refine id_newS ?_; refine xStore ?_) | ((with_reducible refine id_asB ?_); first | refine xTt ?_ | refine xFf ?_))
    refine asB_both (fun h => ?_) fun h => ?_
    · have hk : k = 3 := by simpa using h
      subst hk
      repeat (first | with_reducible refine atK.mk ?_ | with_reducible refine wChk_nil ?_ | with_reducible refine wChk1_nil ?_ | ((with_reducible refine id_wP ?_); first | refine xAdd ?_ | refine xSub ?_ | refine xConv ?_ | refine xMul ?_ | refine wP_max ?_ | refine xIaN ?_ | refine xIaO ?_ | refine xIaU ?_ | refine xBuild ?_ | refine xPure ?_) | ((with_reducible refine id_wR ?_); refine id_new ?_; refine xRead ?_) | ((with_reducible refine id_wA ?_); first | refine xBsl ?_ | refine xAlloc ?_) | ((with_reducible refine id_wE ?_); refine id_newS ?_; refine xStore ?_) | ((with_reducible refine id_asB ?_); first | refine xTt ?_ | refine xFf ?_))
      refine hr2.lenS ?_
      refine wP_remN (by omega) (by simp) ?_
      have hix : (max node 0).toNat % (g :: r').length < (g :: r').length := Nat.mod_lt _ (by simp)
      obtain ⟨f, hf⟩ : ∃ f, (g :: r')[(max node 0).toNat % (g :: r').length]? = some f := ⟨_, List.getElem?_eq_getElem hix⟩
      have hme : meant node (g :: r') = f.node := by simp only [meant, hf]
      refine hr2.iadd hix (seL_at hf) fun p hp => ?_
      refine (hp _ [] Keeps.refl (by simp)).load ?_
      simp only [Se.c]
      repeat (first | with_reducible refine atK.mk ?_ | with_reducible refine wChk_nil ?_ | with_reducible refine wChk1_nil ?_ | ((with_reducible refine id_wP ?_); first | refine xAdd ?_ | refine xSub ?_ | refine xConv ?_ | refine xMul ?_ | refine wP_max ?_ | refine xIaN ?_ | refine xIaO ?_ | refine xIaU ?_ | refine xBuild ?_ | refine xPure ?_) | ((with_reducible refine id_wR ?_); refine id_new ?_; refine xRead ?_) | ((with_reducible refine id_wA ?_); first | refine xBsl ?_ | refine xAlloc ?_) | ((with_reducible refine id_wE ?_); refine id_newS ?_; refine xStore ?_) | ((with_reducible refine id_asB ?_); first | refine xTt ?_ | refine xFf ?_))
      refine s_from (a := a) (by exact atp) fun H2 k2 => ?_
      have hx2 := (hx.keep0 (kk1.comp0 (by exact kp))).keep0 k2
      have hc2 := (hc.keep0 (kk1.comp0 (by exact kp))).keep0 k2
      have hxl2 := hx2.lt
      have hcl2 := hc2.lt
      have hn2 := k2.next
      have kk2 : Keeps H H2 [] := (kk1.comp0 (by exact kp)).comp0 k2
      have hn3 := kk2.next
      repeat (first | with_reducible refine atK.mk ?_ | with_reducible refine wChk_nil ?_ | with_reducible refine wChk1_nil ?_ | ((with_reducible refine id_wP ?_); first | refine xAdd ?_ | refine xSub ?_ | refine xConv ?_ | refine xMul ?_ | refine wP_max ?_ | refine xIaN ?_ | refine xIaO ?_ | refine xIaU ?_ | refine xBuild ?_ | refine xPure ?_) | ((with_reducible refine id_wR ?_); refine id_new ?_; refine xRead ?_) | ((with_reducible refine id_wA ?_); first | refine xBsl ?_ | refine xAlloc ?_) | ((with_reducible refine id_wE ?_); refine id_newS ?_; refine xStore ?_) | ((with_reducible refine id_asB ?_); first | refine xTt ?_ | refine xFf ?_))
      refine ⟨⟨?_, by simp [veq, veq1]⟩, ?_⟩
      · exact rd_new (b := c) (cs := [iv 3, iv id, iv due, iv node, .string s, iv r, iv bg]) (e := 0) atp rfl
      repeat (first | with_reducible refine atK.mk ?_ | with_reducible refine wChk_nil ?_ | with_reducible refine wChk1_nil ?_ | ((with_reducible refine id_wP ?_); first | refine xAdd ?_ | refine xSub ?_ | refine xConv ?_ | refine xMul ?_ | refine wP_max ?_ | refine xIaN ?_ | refine xIaO ?_ | refine xIaU ?_ | refine xBuild ?_ | refine xPure ?_) | ((with_reducible refine id_wR ?_); refine id_new ?_; refine xRead ?_) | ((with_reducible refine id_wA ?_); first | refine xBsl ?_ | refine xAlloc ?_) | ((with_reducible refine id_wE ?_); refine id_newS ?_; refine xStore ?_) | ((with_reducible refine id_asB ?_); first | refine xTt ?_ | refine xFf ?_))
      refine q _ _ (by exact kp) ?_ (by first | omega | (simp only [next_push, next_set]; omega))
      have e : (askM 3 id due node r a s (g :: r')).c = msgR f.node a r id := by simp only [askM, if_true, hme]
      rw [e]
      exact atp
    · have hk : k ≠ 3 := by simpa using h
      repeat (first | with_reducible refine atK.mk ?_ | with_reducible refine wChk_nil ?_ | with_reducible refine wChk1_nil ?_ | ((with_reducible refine id_wP ?_); first | refine xAdd ?_ | refine xSub ?_ | refine xConv ?_ | refine xMul ?_ | refine wP_max ?_ | refine xIaN ?_ | refine xIaO ?_ | refine xIaU ?_ | refine xBuild ?_ | refine xPure ?_) | ((with_reducible refine id_wR ?_); refine id_new ?_; refine xRead ?_) | ((with_reducible refine id_wA ?_); first | refine xBsl ?_ | refine xAlloc ?_) | ((with_reducible refine id_wE ?_); refine id_newS ?_; refine xStore ?_) | ((with_reducible refine id_asB ?_); first | refine xTt ?_ | refine xFf ?_))
      refine asB_both (fun h => ?_) fun h => ?_
      · have hk1 : k = 1 := by simpa using h
        subst hk1
        repeat (first | with_reducible refine atK.mk ?_ | with_reducible refine wChk_nil ?_ | with_reducible refine wChk1_nil ?_ | ((with_reducible refine id_wP ?_); first | refine xAdd ?_ | refine xSub ?_ | refine xConv ?_ | refine xMul ?_ | refine wP_max ?_ | refine xIaN ?_ | refine xIaO ?_ | refine xIaU ?_ | refine xBuild ?_ | refine xPure ?_) | ((with_reducible refine id_wR ?_); refine id_new ?_; refine xRead ?_) | ((with_reducible refine id_wA ?_); first | refine xBsl ?_ | refine xAlloc ?_) | ((with_reducible refine id_wE ?_); refine id_newS ?_; refine xStore ?_) | ((with_reducible refine id_asB ?_); first | refine xTt ?_ | refine xFf ?_))
        refine s_from (a := a) (by exact atp) fun H2 k2 => ?_
        have hx2 := (hx.keep0 kk1).keep0 k2
        have hc2 := (hc.keep0 kk1).keep0 k2
        have hxl2 := hx2.lt
        have hcl2 := hc2.lt
        have hn2 := k2.next
        have kk2 : Keeps H H2 [] := kk1.comp0 k2
        have hn3 := kk2.next
        repeat (first | with_reducible refine atK.mk ?_ | with_reducible refine wChk_nil ?_ | with_reducible refine wChk1_nil ?_ | ((with_reducible refine id_wP ?_); first | refine xAdd ?_ | refine xSub ?_ | refine xConv ?_ | refine xMul ?_ | refine wP_max ?_ | refine xIaN ?_ | refine xIaO ?_ | refine xIaU ?_ | refine xBuild ?_ | refine xPure ?_) | ((with_reducible refine id_wR ?_); refine id_new ?_; refine xRead ?_) | ((with_reducible refine id_wA ?_); first | refine xBsl ?_ | refine xAlloc ?_) | ((with_reducible refine id_wE ?_); refine id_newS ?_; refine xStore ?_) | ((with_reducible refine id_asB ?_); first | refine xTt ?_ | refine xFf ?_))
        refine q _ _ (by exact kp) ?_ (by first | omega | (simp only [next_push, next_set]; omega))
        have e : (askM 1 id due node r a s (g :: r')).c = msgS g.node a r id due s := by simp [askM]
        rw [e]
        exact atp
      · have hk1 : k ≠ 1 := by simpa using h
        repeat (first | with_reducible refine atK.mk ?_ | with_reducible refine wChk_nil ?_ | with_reducible refine wChk1_nil ?_ | ((with_reducible refine id_wP ?_); first | refine xAdd ?_ | refine xSub ?_ | refine xConv ?_ | refine xMul ?_ | refine wP_max ?_ | refine xIaN ?_ | refine xIaO ?_ | refine xIaU ?_ | refine xBuild ?_ | refine xPure ?_) | ((with_reducible refine id_wR ?_); refine id_new ?_; refine xRead ?_) | ((with_reducible refine id_wA ?_); first | refine xBsl ?_ | refine xAlloc ?_) | ((with_reducible refine id_wE ?_); refine id_newS ?_; refine xStore ?_) | ((with_reducible refine id_asB ?_); first | refine xTt ?_ | refine xFf ?_))
        refine s_from (a := a) (by exact atp) fun H2 k2 => ?_
        have hx2 := (hx.keep0 kk1).keep0 k2
        have hc2 := (hc.keep0 kk1).keep0 k2
        have hxl2 := hx2.lt
        have hcl2 := hc2.lt
        have hn2 := k2.next
        have kk2 : Keeps H H2 [] := kk1.comp0 k2
        have hn3 := kk2.next
        repeat (first | with_reducible refine atK.mk ?_ | with_reducible refine wChk_nil ?_ | with_reducible refine wChk1_nil ?_ | ((with_reducible refine id_wP ?_); first | refine xAdd ?_ | refine xSub ?_ | refine xConv ?_ | refine xMul ?_ | refine wP_max ?_ | refine xIaN ?_ | refine xIaO ?_ | refine xIaU ?_ | refine xBuild ?_ | refine xPure ?_) | ((with_reducible refine id_wR ?_); refine id_new ?_; refine xRead ?_) | ((with_reducible refine id_wA ?_); first | refine xBsl ?_ | refine xAlloc ?_) | ((with_reducible refine id_wE ?_); refine id_newS ?_; refine xStore ?_) | ((with_reducible refine id_asB ?_); first | refine xTt ?_ | refine xFf ?_))
        refine q _ _ (by exact kp) ?_ (by first | omega | (simp only [next_push, next_set]; omega))
        have e : (askM k id due node r a s (g :: r')).c = msgX g.node a r id := by simp only [askM, if_neg hk, if_neg hk1]
        rw [e]
        exact atp

/-- A tick as long as a call is pending. -/
theorem s_tickA {H : Heap} {x c : Nat} {a ep cu k id due node r bg t : Int} {s : ByteArray} {c1 chv c5 c6 c7 : Value} {sl : List Se} {Q : Value → Heap → Prop} (hx : At H x (.row [iv a, c1, pt c, iv ep, chv, c5, c6, c7, iv cu] 0))
    (hc : At H c (.row [iv k, iv id, iv due, iv node, .string s, iv r, iv bg] 0)) (hr : RSl 3 H chv sl.length (seL sl)) (hd : x ∉ newOf chv) (hlen : sl.length ≤ 1000000) (hb : 0 ≤ bg ∧ bg ≤ t ∧ t ≤ bg + 500 ∧ t ≤ 4611686018427387904)
    (q : ∀ H' v, Keeps H H' [] → RSl 28 H' v (askM k id due node r a s sl :: polls a cu sl).length (msL (askM k id due node r a s sl :: polls a cu sl)) → Q v H') : EvC 17 [pt x, iv t] H Q := by
  have hxl := hx.lt
  have hcl := hc.lt
  refine Ev.fn (d := k17) rfl (Nat.le_of_ble_eq_true rfl) ?_
  rw [e17]
  repeat (first | with_reducible refine atK.mk ?_ | with_reducible refine wChk_nil ?_ | with_reducible refine wChk1_nil ?_ | ((with_reducible refine id_wP ?_); first | refine xAdd ?_ | refine xSub ?_ | refine xConv ?_ | refine xMul ?_ | refine wP_max ?_ | refine xIaN ?_ | refine xIaO ?_ | refine xIaU ?_ | refine xBuild ?_ | refine xPure ?_) | ((with_reducible refine id_wR ?_); refine id_new ?_; refine xRead ?_) | ((with_reducible refine id_wA ?_); first | refine xBsl ?_ | refine xAlloc ?_) | ((with_reducible refine id_wE ?_); refine id_newS ?_; refine xStore ?_) | ((with_reducible refine id_asB ?_); first | refine xTt ?_ | refine xFf ?_))
  refine s_ask hx hc hr fun H1 b k1 hb1 hge => ?_
  repeat (first | with_reducible refine atK.mk ?_ | with_reducible refine wChk_nil ?_ | with_reducible refine wChk1_nil ?_ | ((with_reducible refine id_wP ?_); first | refine xAdd ?_ | refine xSub ?_ | refine xConv ?_ | refine xMul ?_ | refine wP_max ?_ | refine xIaN ?_ | refine xIaO ?_ | refine xIaU ?_ | refine xBuild ?_ | refine xPure ?_) | ((with_reducible refine id_wR ?_); refine id_new ?_; refine xRead ?_) | ((with_reducible refine id_wA ?_); first | refine xBsl ?_ | refine xAlloc ?_) | ((with_reducible refine id_wE ?_); refine id_newS ?_; refine xStore ?_) | ((with_reducible refine id_asB ?_); first | refine xTt ?_ | refine xFf ?_))
  refine s_polls (pre := [askM k id due node r a s sl]) (hx.keep0 k1) (hr.keep k1 (by simp)) hd hlen (.inr ⟨b, _, rfl, rfl, hb1, by omega, fun h => by have := hr.lt _ h; omega, askM_one _ _ _ _ _ _ _ _⟩) fun H2 v k2 hv => ?_
  exact q H2 v (k1.comp0 k2) hv

end Go.Proofs.Ytfflfehfjgkcdaa.D
