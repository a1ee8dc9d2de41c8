/- The client's functions: what each does, as lemmas (messages). No statement of the seat is proved in this text. -/
import Derived.Test.YtfflfehfjgkcdaaEb
import Derived.Test.YtfflfehfjgkcdaaCa
set_option linter.unusedSimpArgs false
set_option linter.unusedVariables false
set_option maxRecDepth 100000
namespace Go.Proofs.Ytfflfehfjgkcdaa.D
open Go

theorem roomD_le {need bytes : Nat} (h : (2 * need + 512) * bytes ≤ 281474976710656) : roomD need bytes = true := Nat.ble_eq_true_of_le h

theorem s_answers {H : Heap} {x mb c e e' : Nat} {c0 c1 c3 c4 c5 c6 c7 c8 k1 k2 k3 k4 n : Value} {k r mk sq mr r0 r1 r2 : Int} {m1 m2 m3 m4 m7 m8 m9 m10 m11 m12 m13 m14 m15 m16 m17 m18 m19 m20 m24 m25 m26 m27 : Value} {Q : Value → Heap → Prop}
    (hx : At H x (.row [c0, c1, pt c, c3, c4, c5, c6, c7, c8] e)) (hc : At H c (.row [iv k, k1, k2, k3, k4, iv r, n] e')) (hm : At H mb (.row [iv mk, m1, m2, m3, m4, iv sq, iv mr, m7, m8, m9, m10, m11, m12, m13, m14, m15, m16, m17, m18, m19, m20, iv r0, iv r1, iv r2, m24, m25, m26, m27] 0))
    (q : Q (.bool (r == mr && ((mk == 10) == (k == 3)))) H) : EvC 25 [pt x, pt mb] H Q := by
  refine Ev.fn (d := k25) rfl (Nat.le_of_ble_eq_true rfl) ?_
  rw [e25]
  repeat (first | with_reducible refine atK.mk ?_ | with_reducible refine wChk_nil ?_ | with_reducible refine wChk1_nil ?_ | ((with_reducible refine id_wP ?_); first | refine xAdd ?_ | refine xSub ?_ | refine xConv ?_ | refine xMul ?_ | refine wP_max ?_ | refine xIaN ?_ | refine xIaO ?_ | refine xIaU ?_ | refine xBuild ?_ | refine xPure ?_) | ((with_reducible refine id_wR ?_); refine id_new ?_; refine xRead ?_) | ((with_reducible refine id_wA ?_); first | refine xBsl ?_ | refine xAlloc ?_) | ((with_reducible refine id_wE ?_); refine id_newS ?_; refine xStore ?_) | ((with_reducible refine id_asB ?_); first | refine xTt ?_ | refine xFf ?_))
  refine asB_both (fun h => ?_) fun h => ?_
  · refine atK.mk ?_
    have e : (r == mr) = false := by simpa using h
    rw [e] at q
    exact q
  · have e : (r == mr) = true := by simpa using h
    rw [e, Bool.true_and] at q
    repeat (first | with_reducible refine atK.mk ?_ | with_reducible refine wChk_nil ?_ | with_reducible refine wChk1_nil ?_ | ((with_reducible refine id_wP ?_); first | refine xAdd ?_ | refine xSub ?_ | refine xConv ?_ | refine xMul ?_ | refine wP_max ?_ | refine xIaN ?_ | refine xIaO ?_ | refine xIaU ?_ | refine xBuild ?_ | refine xPure ?_) | ((with_reducible refine id_wR ?_); refine id_new ?_; refine xRead ?_) | ((with_reducible refine id_wA ?_); first | refine xBsl ?_ | refine xAlloc ?_) | ((with_reducible refine id_wE ?_); refine id_newS ?_; refine xStore ?_) | ((with_reducible refine id_asB ?_); first | refine xTt ?_ | refine xFf ?_))
    exact q

theorem s_answers0 {H : Heap} {x mb e : Nat} {c0 c1 c3 c4 c5 c6 c7 c8 : Value} {Q : Value → Heap → Prop}
    (hx : At H x (.row [c0, c1, .pointer none, c3, c4, c5, c6, c7, c8] e)) (q : Q (.bool false) H) : EvC 25 [pt x, pt mb] H Q := by
  refine Ev.fn (d := k25) rfl (Nat.le_of_ble_eq_true rfl) ?_
  rw [e25]
  repeat (first | with_reducible refine atK.mk ?_ | with_reducible refine wChk_nil ?_ | with_reducible refine wChk1_nil ?_ | ((with_reducible refine id_wP ?_); first | refine xAdd ?_ | refine xSub ?_ | refine xConv ?_ | refine xMul ?_ | refine wP_max ?_ | refine xIaN ?_ | refine xIaO ?_ | refine xIaU ?_ | refine xBuild ?_ | refine xPure ?_) | ((with_reducible refine id_wR ?_); refine id_new ?_; refine xRead ?_) | ((with_reducible refine id_wA ?_); first | refine xBsl ?_ | refine xAlloc ?_) | ((with_reducible refine id_wE ?_); refine id_newS ?_; refine xStore ?_) | ((with_reducible refine id_asB ?_); first | refine xTt ?_ | refine xFf ?_))
  exact q

/-- The cells of what ended. -/
abbrev evL (a r k id due node : Int) (s : ByteArray) (r0 r1 r2 sq : Int) : List Value := [iv a, iv r, iv 0, iv 0, iv k, iv id, iv due, iv node, .string s, iv r0, iv r1, iv r2, iv sq]

theorem s_end {H : Heap} {x c m len : Nat} {a reqs ep cu k id due node r bg r0 r1 r2 sq : Int} {s : ByteArray} {ch en ha : Value} {L : List Value} {Q : Value → Heap → Prop}
    (hx : At H x (.row (clRow a reqs (pt c) ep ch en ha m cu) 0)) (hc : At H c (.row [iv k, iv id, iv due, iv node, .string s, iv r, iv bg] 0)) (hu : USl 13 H en len L) (hl : len ≤ 1000000)
    (q : ∀ H' en', At H' x (.row (clRow a reqs (.pointer none) ep ch en' ha m cu) 0) → USl 13 H' en' (len + 1) (L ++ evL a r k id due node s r0 r1 r2 sq) → Keeps H H' (x :: blkOf en) → (∀ b ∈ blkOf en', H.next ≤ b) → Q (.tuple ⟨[]⟩) H') :
    EvC 26 [pt x, .agg ⟨[iv r0, iv r1, iv r2]⟩, iv sq] H Q := by
  have hxl := hx.lt
  refine Ev.fn (d := k26) rfl (Nat.le_of_ble_eq_true rfl) ?_
  rw [e26]
  repeat (first | with_reducible refine atK.mk ?_ | with_reducible refine wChk_nil ?_ | with_reducible refine wChk1_nil ?_ | ((with_reducible refine id_wP ?_); first | refine xAdd ?_ | refine xSub ?_ | refine xConv ?_ | refine xMul ?_ | refine wP_max ?_ | refine xIaN ?_ | refine xIaO ?_ | refine xIaU ?_ | refine xBuild ?_ | refine xPure ?_) | ((with_reducible refine id_wR ?_); refine id_new ?_; refine xRead ?_) | ((with_reducible refine id_wA ?_); first | refine xBsl ?_ | refine xAlloc ?_) | ((with_reducible refine id_wE ?_); refine id_newS ?_; refine xStore ?_) | ((with_reducible refine id_asB ?_); first | refine xTt ?_ | refine xFf ?_))
  refine USl.app (len := len) (L := L) (hu.keep (M := []) (by exact kp) (by simp)) (srcD_new At.new.get rfl (by decide)) (by decide) rfl rfl (roomD_le (by omega)) fun v' H' hu' k' hb hn => ?_
  have hk : Keeps H H' (blkOf en) := Keeps.comp (M := blkOf en) (by exact kp) k' (fun x hx => .inl hx)
  have hx1 : At H' x _ := hx.keep hk (hu.ne hx (by simp))
  have hne : ∀ b ∈ blkOf v', H.next ≤ b := by
    intro b h
    rw [hb] at h
    simp only [List.mem_singleton] at h
    subst h
    simp only [next_push]
    omega
  have ho := hu'.isOne
  have hxv : x ∉ blkOf v' := fun h => by have := hne x h; omega
  repeat (first | with_reducible refine atK.mk ?_ | with_reducible refine wChk_nil ?_ | with_reducible refine wChk1_nil ?_ | ((with_reducible refine id_wP ?_); first | refine xAdd ?_ | refine xSub ?_ | refine xConv ?_ | refine xMul ?_ | refine wP_max ?_ | refine xIaN ?_ | refine xIaO ?_ | refine xIaU ?_ | refine xBuild ?_ | refine xPure ?_) | ((with_reducible refine id_wR ?_); refine id_new ?_; refine xRead ?_) | ((with_reducible refine id_wA ?_); first | refine xBsl ?_ | refine xAlloc ?_) | ((with_reducible refine id_wE ?_); refine id_newS ?_; refine xStore ?_) | ((with_reducible refine id_asB ?_); first | refine xTt ?_ | refine xFf ?_))
  refine q _ v' (by exact atp) ?_ ?_ hne
  · exact (hu'.keep (M := [x]) (by exact kp) (fun b h1 h2 => hxv (by simp only [List.mem_singleton] at h2; subst h2; exact h1)))
  · exact Keeps.comp (M := x :: blkOf en) (hk.mono (fun b h => .inl (by simp [h]))) (N := [x]) (by exact kp) (by simp)

end Go.Proofs.Ytfflfehfjgkcdaa.D
