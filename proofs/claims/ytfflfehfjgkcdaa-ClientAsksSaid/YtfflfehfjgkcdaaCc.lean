/- The client's functions: what each does, as lemmas (answers). No statement of the seat is proved in this text. -/
import Derived.Test.YtfflfehfjgkcdaaCb
set_option linter.unusedSimpArgs false
set_option linter.unusedVariables false
set_option maxRecDepth 100000
namespace Go.Proofs.Ytfflfehfjgkcdaa.D
open Go

abbrev zev : List Value := [iv 0, iv 0, iv 0, iv 0, iv 0, iv 0, iv 0, iv 0, .string ⟨⟨[]⟩⟩, iv 0, iv 0, iv 0, iv 0]

theorem s_next0 {H : Heap} {x e : Nat} {c0 c1 c2 c3 c4 en c6 c7 c8 : Value} {L : List Value} {Q : Value → Heap → Prop} (hx : At H x (.row [c0, c1, c2, c3, c4, en, c6, c7, c8] e)) (hu : USl 13 H en 0 L)
    (q : ∀ H', Keeps H H' [] → Q (.tuple ⟨[.agg ⟨zev⟩, .bool false]⟩) H') : EvC 13 [pt x] H Q := by
  have hl := hx.lt
  refine Ev.fn (d := k13) rfl (Nat.le_of_ble_eq_true rfl) ?_
  rw [e13]
  repeat (first | with_reducible refine atK.mk ?_ | with_reducible refine wChk_nil ?_ | with_reducible refine wChk1_nil ?_ | ((with_reducible refine id_wP ?_); first | refine xAdd ?_ | refine xSub ?_ | refine xConv ?_ | refine xMul ?_ | refine wP_max ?_ | refine xIaN ?_ | refine xIaO ?_ | refine xIaU ?_ | refine xBuild ?_ | refine xPure ?_) | ((with_reducible refine id_wR ?_); refine id_new ?_; refine xRead ?_) | ((with_reducible refine id_wA ?_); first | refine xBsl ?_ | refine xAlloc ?_) | ((with_reducible refine id_wE ?_); refine id_newS ?_; refine xStore ?_) | ((with_reducible refine id_asB ?_); first | refine xTt ?_ | refine xFf ?_))
  have hlen : ∃ a c, en = .slice a 0 c := by
    cases hu <;> exact ⟨_, _, rfl⟩
  obtain ⟨a, c, rfl⟩ := hlen
  repeat (first | with_reducible refine atK.mk ?_ | with_reducible refine wChk_nil ?_ | with_reducible refine wChk1_nil ?_ | ((with_reducible refine id_wP ?_); first | refine xAdd ?_ | refine xSub ?_ | refine xConv ?_ | refine xMul ?_ | refine wP_max ?_ | refine xIaN ?_ | refine xIaO ?_ | refine xIaU ?_ | refine xBuild ?_ | refine xPure ?_) | ((with_reducible refine id_wR ?_); refine id_new ?_; refine xRead ?_) | ((with_reducible refine id_wA ?_); first | refine xBsl ?_ | refine xAlloc ?_) | ((with_reducible refine id_wE ?_); refine id_newS ?_; refine xStore ?_) | ((with_reducible refine id_asB ?_); first | refine xTt ?_ | refine xFf ?_))
  exact q _ (by exact kp)

theorem s_next1 {H : Heap} {x len : Nat} {c0 c1 c2 c3 c4 en c6 c7 c8 e0 e1 e2 e3 e4 e5 e6 e7 e8 e9 e10 e11 e12 : Value} {L : List Value} {Q : Value → Heap → Prop} (hx : At H x (.row [c0, c1, c2, c3, c4, en, c6, c7, c8] 0)) (hu : USl 13 H en (len + 1) ([e0, e1, e2, e3, e4, e5, e6, e7, e8, e9, e10, e11, e12] ++ L))
    (ho : [e0, e1, e2, e3, e4, e5, e6, e7, e8, e9, e10, e11, e12].all oneC = true)
    (q : ∀ H' en', Keeps H H' [x] → At H' x (.row [c0, c1, c2, c3, c4, en', c6, c7, c8] 0) → USl 13 H' en' len L → blkOf en' = blkOf en → Q (.tuple ⟨[.agg ⟨[e0, e1, e2, e3, e4, e5, e6, e7, e8, e9, e10, e11, e12]⟩, .bool true]⟩) H') : EvC 13 [pt x] H Q := by
  have hl := hx.lt
  refine Ev.fn (d := k13) rfl (Nat.le_of_ble_eq_true rfl) ?_
  rw [e13]
  repeat (first | with_reducible refine atK.mk ?_ | with_reducible refine wChk_nil ?_ | with_reducible refine wChk1_nil ?_ | ((with_reducible refine id_wP ?_); first | refine xAdd ?_ | refine xSub ?_ | refine xConv ?_ | refine xMul ?_ | refine wP_max ?_ | refine xIaN ?_ | refine xIaO ?_ | refine xIaU ?_ | refine xBuild ?_ | refine xPure ?_) | ((with_reducible refine id_wR ?_); refine id_new ?_; refine xRead ?_) | ((with_reducible refine id_wA ?_); first | refine xBsl ?_ | refine xAlloc ?_) | ((with_reducible refine id_wE ?_); refine id_newS ?_; refine xStore ?_) | ((with_reducible refine id_asB ?_); first | refine xTt ?_ | refine xFf ?_))
  obtain ⟨b, o, all, rfl, hb, hrd⟩ := hu.read (i := 0) (by omega) (cs := [e0, e1, e2, e3, e4, e5, e6, e7, e8, e9, e10, e11, e12]) (by rw [takeN_take (by simp)]; rfl)
  have hbx : x ≠ b := hx.ne hb (by simp)
  have hbl := hb.lt
  repeat (first | with_reducible refine atK.mk ?_ | with_reducible refine wChk_nil ?_ | with_reducible refine wChk1_nil ?_ | ((with_reducible refine id_wP ?_); first | refine xAdd ?_ | refine xSub ?_ | refine xConv ?_ | refine xMul ?_ | refine wP_max ?_ | refine xIaN ?_ | refine xIaO ?_ | refine xIaU ?_ | refine xBuild ?_ | refine xPure ?_) | ((with_reducible refine id_wR ?_); refine id_new ?_; refine xRead ?_) | ((with_reducible refine id_wA ?_); first | refine xBsl ?_ | refine xAlloc ?_) | ((with_reducible refine id_wE ?_); refine id_newS ?_; refine xStore ?_) | ((with_reducible refine id_asB ?_); first | refine xTt ?_ | refine xFf ?_))
  refine wR_new (v := .agg ⟨[e0, e1, e2, e3, e4, e5, e6, e7, e8, e9, e10, e11, e12]⟩) (At.get (X := .row all 13) (by exact atp)) ?_ ?_
  · unfold ldv
    have e : o + Int.toNat 0 * 13 = o + 0 * 13 := rfl
    rw [e, hrd]
    rfl
  repeat (first | with_reducible refine atK.mk ?_ | with_reducible refine wChk_nil ?_ | with_reducible refine wChk1_nil ?_ | ((with_reducible refine id_wP ?_); first | refine xAdd ?_ | refine xSub ?_ | refine xConv ?_ | refine xMul ?_ | refine wP_max ?_ | refine xIaN ?_ | refine xIaO ?_ | refine xIaU ?_ | refine xBuild ?_ | refine xPure ?_) | ((with_reducible refine id_wR ?_); refine id_new ?_; refine xRead ?_) | ((with_reducible refine id_wA ?_); first | refine xBsl ?_ | refine xAlloc ?_) | ((with_reducible refine id_wE ?_); refine id_newS ?_; refine xStore ?_) | ((with_reducible refine id_asB ?_); first | refine xTt ?_ | refine xFf ?_))
  refine USl.tail (k := 1) (hu.keep (M := []) (by exact kp) (by simp)) (by omega) (by omega) fun en' hu' hb' => ?_
  have ho' := hu'.isOne
  repeat (first | with_reducible refine atK.mk ?_ | with_reducible refine wChk_nil ?_ | with_reducible refine wChk1_nil ?_ | ((with_reducible refine id_wP ?_); first | refine xAdd ?_ | refine xSub ?_ | refine xConv ?_ | refine xMul ?_ | refine wP_max ?_ | refine xIaN ?_ | refine xIaO ?_ | refine xIaU ?_ | refine xBuild ?_ | refine xPure ?_) | ((with_reducible refine id_wR ?_); refine id_new ?_; refine xRead ?_) | ((with_reducible refine id_wA ?_); first | refine xBsl ?_ | refine xAlloc ?_) | ((with_reducible refine id_wE ?_); refine id_newS ?_; refine xStore ?_) | ((with_reducible refine id_asB ?_); first | refine xTt ?_ | refine xFf ?_))
  have hlt : H.next ∉ blkOf en' := by
    rw [hb']
    simp only [blkOf, List.mem_singleton]
    omega
  have hxn : x ∉ blkOf en' := by
    rw [hb']
    simp only [blkOf, List.mem_singleton]
    exact hbx
  exact q _ en' (by exact kp) (by exact atp) (USl.keep hu' (M := [x, H.next]) (by exact kp) (fun c h1 h2 => by
    simp only [List.mem_cons, List.not_mem_nil, or_false] at h2
    rcases h2 with rfl | rfl
    · exact hxn h1
    · exact hlt h1)) hb'

/-- A message about a call that doesn't answer it changes nothing. -/
theorem s_takeNo {H : Heap} {x c e e' : Nat} {c0 c1 c3 c4 c5 c6 c7 c8 k1 k2 k3 k4 n now : Value} {k r mk sq mr r0 r1 r2 : Int} {m1 m2 m3 m4 m7 m8 m9 m10 m11 m12 m13 m14 m15 m16 m17 m18 m19 m20 m24 m25 m26 m27 : Value} {Q : Value → Heap → Prop}
    (hx : At H x (.row [c0, c1, pt c, c3, c4, c5, c6, c7, c8] e)) (hc : At H c (.row [iv k, k1, k2, k3, k4, iv r, n] e')) (hk : mk = 8 ∨ mk = 10) (hno : (r == mr && ((mk == 10) == (k == 3))) = false)
    (q : ∀ H', Keeps H H' [] → Q (.slice none 0 0) H') : EvC 11 [pt x, .agg ⟨[iv mk, m1, m2, m3, m4, iv sq, iv mr, m7, m8, m9, m10, m11, m12, m13, m14, m15, m16, m17, m18, m19, m20, iv r0, iv r1, iv r2, m24, m25, m26, m27]⟩, now] H Q := by
  have hl := hx.lt
  have hcl := hc.lt
  refine Ev.fn (d := k11) rfl (Nat.le_of_ble_eq_true rfl) ?_
  rw [e11]
  have fin : w11_18 (look tb) nvNone (pt x) (pt H.next) (iv mk) (.bool true) (H.push (.row [iv mk, m1, m2, m3, m4, iv sq, iv mr, m7, m8, m9, m10, m11, m12, m13, m14, m15, m16, m17, m18, m19, m20, iv r0, iv r1, iv r2, m24, m25, m26, m27] 0)) Q := by
    rw [e11_18]
    refine asB_tt rfl ?_
    refine s_answers (k := k) (r := r) (mk := mk) (mr := mr) (by exact atp) (by exact atp) (by exact atp) ?_
    rw [hno]
    refine asB_ff rfl ?_
    refine atK.mk ?_
    rw [e11_21]
    refine atK.mk ?_
    exact q _ (by exact kp)
  repeat (first | with_reducible refine atK.mk ?_ | with_reducible refine wChk_nil ?_ | with_reducible refine wChk1_nil ?_ | ((with_reducible refine id_wP ?_); first | refine xAdd ?_ | refine xSub ?_ | refine xConv ?_ | refine xMul ?_ | refine wP_max ?_ | refine xIaN ?_ | refine xIaO ?_ | refine xIaU ?_ | refine xBuild ?_ | refine xPure ?_) | ((with_reducible refine id_wR ?_); refine id_new ?_; refine xRead ?_) | ((with_reducible refine id_wA ?_); first | refine xBsl ?_ | refine xAlloc ?_) | ((with_reducible refine id_wE ?_); refine id_newS ?_; refine xStore ?_) | ((with_reducible refine id_asB ?_); first | refine xTt ?_ | refine xFf ?_))
  rcases hk with rfl | rfl
  · repeat (first | with_reducible refine atK.mk ?_ | with_reducible refine wChk_nil ?_ | with_reducible refine wChk1_nil ?_ | ((with_reducible refine id_wP ?_); first | refine xAdd ?_ | refine xSub ?_ | refine xConv ?_ | refine xMul ?_ | refine wP_max ?_ | refine xIaN ?_ | refine xIaO ?_ | refine xIaU ?_ | refine xBuild ?_ | refine xPure ?_) | ((with_reducible refine id_wR ?_); refine id_new ?_; refine xRead ?_) | ((with_reducible refine id_wA ?_); first | refine xBsl ?_ | refine xAlloc ?_) | ((with_reducible refine id_wE ?_); refine id_newS ?_; refine xStore ?_) | ((with_reducible refine id_asB ?_); first | refine xTt ?_ | refine xFf ?_))
    exact fin
  · repeat (first | with_reducible refine atK.mk ?_ | with_reducible refine wChk_nil ?_ | with_reducible refine wChk1_nil ?_ | ((with_reducible refine id_wP ?_); first | refine xAdd ?_ | refine xSub ?_ | refine xConv ?_ | refine xMul ?_ | refine wP_max ?_ | refine xIaN ?_ | refine xIaO ?_ | refine xIaU ?_ | refine xBuild ?_ | refine xPure ?_) | ((with_reducible refine id_wR ?_); refine id_new ?_; refine xRead ?_) | ((with_reducible refine id_wA ?_); first | refine xBsl ?_ | refine xAlloc ?_) | ((with_reducible refine id_wE ?_); refine id_newS ?_; refine xStore ?_) | ((with_reducible refine id_asB ?_); first | refine xTt ?_ | refine xFf ?_))
    exact fin

/-- A message that answers the call ends it. -/
theorem s_takeYes {H : Heap} {x c m len : Nat} {a reqs ep cu k id due node r bg mk sq mr r0 r1 r2 : Int} {s : ByteArray} {ch en ha now : Value} {L : List Value} {m1 m2 m3 m4 m7 m8 m9 m10 m11 m12 m13 m14 m15 m16 m17 m18 m19 m20 m24 m25 m26 m27 : Value} {Q : Value → Heap → Prop}
    (hx : At H x (.row (clRow a reqs (pt c) ep ch en ha m cu) 0)) (hc : At H c (.row [iv k, iv id, iv due, iv node, .string s, iv r, iv bg] 0)) (hu : USl 13 H en len L) (hlen : len ≤ 1000000)
    (hk : mk = 8 ∨ mk = 10) (hyes : (r == mr && ((mk == 10) == (k == 3))) = true)
    (q : ∀ H' en', At H' x (.row (clRow a reqs (.pointer none) ep ch en' ha m cu) 0) → USl 13 H' en' (len + 1) (L ++ evL a r k id due node s r0 r1 r2 sq) → Keeps H H' (x :: blkOf en) → (∀ b ∈ blkOf en', H.next ≤ b) → Q (.slice none 0 0) H') :
    EvC 11 [pt x, .agg ⟨[iv mk, m1, m2, m3, m4, iv sq, iv mr, m7, m8, m9, m10, m11, m12, m13, m14, m15, m16, m17, m18, m19, m20, iv r0, iv r1, iv r2, m24, m25, m26, m27]⟩, now] H Q := by
  have hl := hx.lt
  have hcl := hc.lt
  refine Ev.fn (d := k11) rfl (Nat.le_of_ble_eq_true rfl) ?_
  rw [e11]
  have fin : w11_18 (look tb) nvNone (pt x) (pt H.next) (iv mk) (.bool true) (H.push (.row [iv mk, m1, m2, m3, m4, iv sq, iv mr, m7, m8, m9, m10, m11, m12, m13, m14, m15, m16, m17, m18, m19, m20, iv r0, iv r1, iv r2, m24, m25, m26, m27] 0)) Q := by
    rw [e11_18]
    refine asB_tt rfl ?_
    refine s_answers (k := k) (r := r) (mk := mk) (mr := mr) (by exact atp) (by exact atp) (by exact atp) ?_
    rw [hyes]
    refine asB_tt rfl ?_
    repeat (first | with_reducible refine atK.mk ?_ | with_reducible refine wChk_nil ?_ | with_reducible refine wChk1_nil ?_ | ((with_reducible refine id_wP ?_); first | refine xAdd ?_ | refine xSub ?_ | refine xConv ?_ | refine xMul ?_ | refine wP_max ?_ | refine xIaN ?_ | refine xIaO ?_ | refine xIaU ?_ | refine xBuild ?_ | refine xPure ?_) | ((with_reducible refine id_wR ?_); refine id_new ?_; refine xRead ?_) | ((with_reducible refine id_wA ?_); first | refine xBsl ?_ | refine xAlloc ?_) | ((with_reducible refine id_wE ?_); refine id_newS ?_; refine xStore ?_) | ((with_reducible refine id_asB ?_); first | refine xTt ?_ | refine xFf ?_))
    refine s_end (by exact atp) (by exact atp) (hu.keep (M := []) (by exact kp) (by simp)) hlen fun H' en' h1 h2 h3 h4 => ?_
    refine atK.mk ?_
    rw [e11_21]
    refine atK.mk ?_
    refine q H' en' h1 h2 (Keeps.comp (Ha := H.push _) (by exact kp) h3 (fun b hb => .inl hb)) fun b hb => ?_
    have := h4 b hb
    simp only [next_push] at this
    omega
  repeat (first | with_reducible refine atK.mk ?_ | with_reducible refine wChk_nil ?_ | with_reducible refine wChk1_nil ?_ | ((with_reducible refine id_wP ?_); first | refine xAdd ?_ | refine xSub ?_ | refine xConv ?_ | refine xMul ?_ | refine wP_max ?_ | refine xIaN ?_ | refine xIaO ?_ | refine xIaU ?_ | refine xBuild ?_ | refine xPure ?_) | ((with_reducible refine id_wR ?_); refine id_new ?_; refine xRead ?_) | ((with_reducible refine id_wA ?_); first | refine xBsl ?_ | refine xAlloc ?_) | ((with_reducible refine id_wE ?_); refine id_newS ?_; refine xStore ?_) | ((with_reducible refine id_asB ?_); first | refine xTt ?_ | refine xFf ?_))
  rcases hk with rfl | rfl
  · repeat (first | with_reducible refine atK.mk ?_ | with_reducible refine wChk_nil ?_ | with_reducible refine wChk1_nil ?_ | ((with_reducible refine id_wP ?_); first | refine xAdd ?_ | refine xSub ?_ | refine xConv ?_ | refine xMul ?_ | refine wP_max ?_ | refine xIaN ?_ | refine xIaO ?_ | refine xIaU ?_ | refine xBuild ?_ | refine xPure ?_) | ((with_reducible refine id_wR ?_); refine id_new ?_; refine xRead ?_) | ((with_reducible refine id_wA ?_); first | refine xBsl ?_ | refine xAlloc ?_) | ((with_reducible refine id_wE ?_); refine id_newS ?_; refine xStore ?_) | ((with_reducible refine id_asB ?_); first | refine xTt ?_ | refine xFf ?_))
    exact fin
  · repeat (first | with_reducible refine atK.mk ?_ | with_reducible refine wChk_nil ?_ | with_reducible refine wChk1_nil ?_ | ((with_reducible refine id_wP ?_); first | refine xAdd ?_ | refine xSub ?_ | refine xConv ?_ | refine xMul ?_ | refine wP_max ?_ | refine xIaN ?_ | refine xIaO ?_ | refine xIaU ?_ | refine xBuild ?_ | refine xPure ?_) | ((with_reducible refine id_wR ?_); refine id_new ?_; refine xRead ?_) | ((with_reducible refine id_wA ?_); first | refine xBsl ?_ | refine xAlloc ?_) | ((with_reducible refine id_wE ?_); refine id_newS ?_; refine xStore ?_) | ((with_reducible refine id_asB ?_); first | refine xTt ?_ | refine xFf ?_))
    exact fin

end Go.Proofs.Ytfflfehfjgkcdaa.D
