/- The client's functions: messages, as they come. No statement of the seat is proved in this text. -/
import Derived.Test.YtfflfehfjgkcdaaCl
import Derived.Test.YtfflfehfjgkcdaaCi
set_option linter.unusedSimpArgs false
set_option linter.unusedVariables false
set_option maxRecDepth 100000
namespace Go.Proofs.Ytfflfehfjgkcdaa.D
open Go

/-- A message, but for its chain and its fires. -/
structure Mg where
  m0 : Int
  m1 : Int
  m2 : Int
  m3 : Int
  m4 : Int
  m5 : Int
  m6 : Int
  m7 : Int
  m8 : Int
  m9 : Int
  flag : Bool
  m11 : Int
  m12 : Int
  m13 : Int
  m14 : Int
  m15 : Int
  m16 : Int
  m17 : Int
  m18 : Int
  m19 : Int
  txt : ByteArray
  m21 : Int
  m22 : Int
  m23 : Int
  m24 : Int
  m27 : Int

abbrev Mg.c (g : Mg) (ch fi : Value) : List Value := [iv g.m0, iv g.m1, iv g.m2, iv g.m3, iv g.m4, iv g.m5, iv g.m6, iv g.m7, iv g.m8, iv g.m9, .bool g.flag, iv g.m11, iv g.m12, iv g.m13, iv g.m14, iv g.m15, iv g.m16, iv g.m17, iv g.m18, iv g.m19, .string g.txt, iv g.m21, iv g.m22, iv g.m23, iv g.m24, ch, fi, iv g.m27]
abbrev msgSh : List Sh := [.i .i64, .i .i64, .i .i64, .i .i64, .i .i64, .i .i64, .i .i64, .i .i64, .i .i64, .i .i64, .b, .i .i64, .i .i64, .i .i64, .i .i64, .i .i64, .i .i64, .i .i64, .i .i64, .i .i64, .s, .i .i64, .i .i64, .i .i64, .i .i64, .sl 3 seSh, .sl 6 fiSh, .i .i64]

theorem msgSh_ok {B : Nat → Nat → Option Value} {cs : List Value} (h : ShsOk B msgSh cs) : ∃ (g : Mg) (ch fi : Value), cs = g.c ch fi ∧ ShOk B (.sl 3 seSh) ch ∧ ShOk B (.sl 6 fiSh) fi := by
  obtain ⟨v0, r, rfl, h0, h⟩ := h.cons
  obtain ⟨v1, r, rfl, h1, h⟩ := h.cons
  obtain ⟨v2, r, rfl, h2, h⟩ := h.cons
  obtain ⟨v3, r, rfl, h3, h⟩ := h.cons
  obtain ⟨v4, r, rfl, h4, h⟩ := h.cons
  obtain ⟨v5, r, rfl, h5, h⟩ := h.cons
  obtain ⟨v6, r, rfl, h6, h⟩ := h.cons
  obtain ⟨v7, r, rfl, h7, h⟩ := h.cons
  obtain ⟨v8, r, rfl, h8, h⟩ := h.cons
  obtain ⟨v9, r, rfl, h9, h⟩ := h.cons
  obtain ⟨v10, r, rfl, h10, h⟩ := h.cons
  obtain ⟨v11, r, rfl, h11, h⟩ := h.cons
  obtain ⟨v12, r, rfl, h12, h⟩ := h.cons
  obtain ⟨v13, r, rfl, h13, h⟩ := h.cons
  obtain ⟨v14, r, rfl, h14, h⟩ := h.cons
  obtain ⟨v15, r, rfl, h15, h⟩ := h.cons
  obtain ⟨v16, r, rfl, h16, h⟩ := h.cons
  obtain ⟨v17, r, rfl, h17, h⟩ := h.cons
  obtain ⟨v18, r, rfl, h18, h⟩ := h.cons
  obtain ⟨v19, r, rfl, h19, h⟩ := h.cons
  obtain ⟨v20, r, rfl, h20, h⟩ := h.cons
  obtain ⟨v21, r, rfl, h21, h⟩ := h.cons
  obtain ⟨v22, r, rfl, h22, h⟩ := h.cons
  obtain ⟨v23, r, rfl, h23, h⟩ := h.cons
  obtain ⟨v24, r, rfl, h24, h⟩ := h.cons
  obtain ⟨v25, r, rfl, h25, h⟩ := h.cons
  obtain ⟨v26, r, rfl, h26, h⟩ := h.cons
  obtain ⟨v27, r, rfl, h27, h⟩ := h.cons
  obtain rfl := h.nil
  obtain ⟨n0, rfl, _⟩ := h0.int
  obtain ⟨n1, rfl, _⟩ := h1.int
  obtain ⟨n2, rfl, _⟩ := h2.int
  obtain ⟨n3, rfl, _⟩ := h3.int
  obtain ⟨n4, rfl, _⟩ := h4.int
  obtain ⟨n5, rfl, _⟩ := h5.int
  obtain ⟨n6, rfl, _⟩ := h6.int
  obtain ⟨n7, rfl, _⟩ := h7.int
  obtain ⟨n8, rfl, _⟩ := h8.int
  obtain ⟨n9, rfl, _⟩ := h9.int
  obtain ⟨n10, rfl⟩ := h10.bool
  obtain ⟨n11, rfl, _⟩ := h11.int
  obtain ⟨n12, rfl, _⟩ := h12.int
  obtain ⟨n13, rfl, _⟩ := h13.int
  obtain ⟨n14, rfl, _⟩ := h14.int
  obtain ⟨n15, rfl, _⟩ := h15.int
  obtain ⟨n16, rfl, _⟩ := h16.int
  obtain ⟨n17, rfl, _⟩ := h17.int
  obtain ⟨n18, rfl, _⟩ := h18.int
  obtain ⟨n19, rfl, _⟩ := h19.int
  obtain ⟨n20, rfl, hs⟩ := h20.str
  obtain ⟨n21, rfl, _⟩ := h21.int
  obtain ⟨n22, rfl, _⟩ := h22.int
  obtain ⟨n23, rfl, _⟩ := h23.int
  obtain ⟨n24, rfl, _⟩ := h24.int
  obtain ⟨n27, rfl, _⟩ := h27.int
  exact ⟨⟨n0, n1, n2, n3, n4, n5, n6, n7, n8, n9, n10, n11, n12, n13, n14, n15, n16, n17, n18, n19, n20, n21, n22, n23, n24, n27⟩, v25, v26, rfl, h25, h26⟩

theorem fiSh_ok' {B : Nat → Nat → Option Value} {cs : List Value} (h : ShsOk B fiSh cs) : ∃ f : Fi, cs = f.c ∧ True := by
  obtain ⟨f, hf⟩ := fiSh_ok h
  exact ⟨f, hf, trivial⟩

/-- Right of a chain. -/
theorem s_right {H : Heap} {ep : Int} {chv : Value} {sl : List Se} {Q : Value → Heap → Prop} (hr : RSl 3 H chv sl.length (seL sl)) (q : ∀ H', Keeps H H' [] → Q (.bool (rightB ep sl)) H') : EvC 23 [.agg ⟨[iv ep, chv]⟩] H Q := by
  have ho : oneC chv = true := by obtain ⟨a, cap, rfl⟩ := hr.isLen; rfl
  refine Ev.fn (d := k23) rfl (Nat.le_of_ble_eq_true rfl) ?_
  rw [e23]
  repeat (first | with_reducible refine atK.mk ?_ | with_reducible refine wChk_nil ?_ | with_reducible refine wChk1_nil ?_ | ((with_reducible refine id_wP ?_); first | refine xAdd ?_ | refine xSub ?_ | refine xConv ?_ | refine xMul ?_ | refine wP_max ?_ | refine xIaN ?_ | refine xIaO ?_ | refine xIaU ?_ | refine xBuild ?_ | refine xPure ?_) | ((with_reducible refine id_wR ?_); refine id_new ?_; refine xRead ?_) | ((with_reducible refine id_wA ?_); first | refine xBsl ?_ | refine xAlloc ?_) | ((with_reducible refine id_wE ?_); refine id_newS ?_; refine xStore ?_) | ((with_reducible refine id_asB ?_); first | refine xTt ?_ | refine xFf ?_))
  refine hr.lenS ?_
  repeat (first | with_reducible refine atK.mk ?_ | with_reducible refine wChk_nil ?_ | with_reducible refine wChk1_nil ?_ | ((with_reducible refine id_wP ?_); first | refine xAdd ?_ | refine xSub ?_ | refine xConv ?_ | refine xMul ?_ | refine wP_max ?_ | refine xIaN ?_ | refine xIaO ?_ | refine xIaU ?_ | refine xBuild ?_ | refine xPure ?_) | ((with_reducible refine id_wR ?_); refine id_new ?_; refine xRead ?_) | ((with_reducible refine id_wA ?_); first | refine xBsl ?_ | refine xAlloc ?_) | ((with_reducible refine id_wE ?_); refine id_newS ?_; refine xStore ?_) | ((with_reducible refine id_asB ?_); first | refine xTt ?_ | refine xFf ?_))
  have no : rightB ep sl = false → Q (.bool false) (H.push (.row [iv ep, chv] 0)) := fun e => by
    have := q _ (show Keeps H (H.push (.row [iv ep, chv] 0)) [] by exact kp)
    rw [e] at this
    exact this
  refine asB_both (fun h => ?_) fun h => ?_
  · have h1 : ¬ 1 ≤ ep := by simpa using h
    repeat (first | with_reducible refine atK.mk ?_ | with_reducible refine wChk_nil ?_ | with_reducible refine wChk1_nil ?_ | ((with_reducible refine id_wP ?_); first | refine xAdd ?_ | refine xSub ?_ | refine xConv ?_ | refine xMul ?_ | refine wP_max ?_ | refine xIaN ?_ | refine xIaO ?_ | refine xIaU ?_ | refine xBuild ?_ | refine xPure ?_) | ((with_reducible refine id_wR ?_); refine id_new ?_; refine xRead ?_) | ((with_reducible refine id_wA ?_); first | refine xBsl ?_ | refine xAlloc ?_) | ((with_reducible refine id_wE ?_); refine id_newS ?_; refine xStore ?_) | ((with_reducible refine id_asB ?_); first | refine xTt ?_ | refine xFf ?_))
    exact no (by simp [rightB, h1])
  have h1 : 1 ≤ ep := by simpa using h
  repeat (first | with_reducible refine atK.mk ?_ | with_reducible refine wChk_nil ?_ | with_reducible refine wChk1_nil ?_ | ((with_reducible refine id_wP ?_); first | refine xAdd ?_ | refine xSub ?_ | refine xConv ?_ | refine xMul ?_ | refine wP_max ?_ | refine xIaN ?_ | refine xIaO ?_ | refine xIaU ?_ | refine xBuild ?_ | refine xPure ?_) | ((with_reducible refine id_wR ?_); refine id_new ?_; refine xRead ?_) | ((with_reducible refine id_wA ?_); first | refine xBsl ?_ | refine xAlloc ?_) | ((with_reducible refine id_wE ?_); refine id_newS ?_; refine xStore ?_) | ((with_reducible refine id_asB ?_); first | refine xTt ?_ | refine xFf ?_))
  refine asB_both (fun h => ?_) fun h => ?_
  · have h2 : ¬ ep ≤ 1099511627776 := by simpa using h
    repeat (first | with_reducible refine atK.mk ?_ | with_reducible refine wChk_nil ?_ | with_reducible refine wChk1_nil ?_ | ((with_reducible refine id_wP ?_); first | refine xAdd ?_ | refine xSub ?_ | refine xConv ?_ | refine xMul ?_ | refine wP_max ?_ | refine xIaN ?_ | refine xIaO ?_ | refine xIaU ?_ | refine xBuild ?_ | refine xPure ?_) | ((with_reducible refine id_wR ?_); refine id_new ?_; refine xRead ?_) | ((with_reducible refine id_wA ?_); first | refine xBsl ?_ | refine xAlloc ?_) | ((with_reducible refine id_wE ?_); refine id_newS ?_; refine xStore ?_) | ((with_reducible refine id_asB ?_); first | refine xTt ?_ | refine xFf ?_))
    exact no (by simp [rightB, h2])
  have h2 : ep ≤ 1099511627776 := by simpa using h
  repeat (first | with_reducible refine atK.mk ?_ | with_reducible refine wChk_nil ?_ | with_reducible refine wChk1_nil ?_ | ((with_reducible refine id_wP ?_); first | refine xAdd ?_ | refine xSub ?_ | refine xConv ?_ | refine xMul ?_ | refine wP_max ?_ | refine xIaN ?_ | refine xIaO ?_ | refine xIaU ?_ | refine xBuild ?_ | refine xPure ?_) | ((with_reducible refine id_wR ?_); refine id_new ?_; refine xRead ?_) | ((with_reducible refine id_wA ?_); first | refine xBsl ?_ | refine xAlloc ?_) | ((with_reducible refine id_wE ?_); refine id_newS ?_; refine xStore ?_) | ((with_reducible refine id_asB ?_); first | refine xTt ?_ | refine xFf ?_))
  refine asB_both (fun h => ?_) fun h => ?_
  · have h3 : ¬ 1 ≤ sl.length := by
      have h' : (sl.length : Int) < 1 := by simpa using h
      omega
    repeat (first | with_reducible refine atK.mk ?_ | with_reducible refine wChk_nil ?_ | with_reducible refine wChk1_nil ?_ | ((with_reducible refine id_wP ?_); first | refine xAdd ?_ | refine xSub ?_ | refine xConv ?_ | refine xMul ?_ | refine wP_max ?_ | refine xIaN ?_ | refine xIaO ?_ | refine xIaU ?_ | refine xBuild ?_ | refine xPure ?_) | ((with_reducible refine id_wR ?_); refine id_new ?_; refine xRead ?_) | ((with_reducible refine id_wA ?_); first | refine xBsl ?_ | refine xAlloc ?_) | ((with_reducible refine id_wE ?_); refine id_newS ?_; refine xStore ?_) | ((with_reducible refine id_asB ?_); first | refine xTt ?_ | refine xFf ?_))
    exact no (by simp [rightB, h3])
  have h3 : 1 ≤ sl.length := by
    have h' : ¬ (sl.length : Int) < 1 := by simpa using h
    omega
  repeat (first | with_reducible refine atK.mk ?_ | with_reducible refine wChk_nil ?_ | with_reducible refine wChk1_nil ?_ | ((with_reducible refine id_wP ?_); first | refine xAdd ?_ | refine xSub ?_ | refine xConv ?_ | refine xMul ?_ | refine wP_max ?_ | refine xIaN ?_ | refine xIaO ?_ | refine xIaU ?_ | refine xBuild ?_ | refine xPure ?_) | ((with_reducible refine id_wR ?_); refine id_new ?_; refine xRead ?_) | ((with_reducible refine id_wA ?_); first | refine xBsl ?_ | refine xAlloc ?_) | ((with_reducible refine id_wE ?_); refine id_newS ?_; refine xStore ?_) | ((with_reducible refine id_asB ?_); first | refine xTt ?_ | refine xFf ?_))
  refine asB_both (fun h => ?_) fun h => ?_
  · have h4 : ¬ sl.length ≤ 8 := by
      have h' : (sl.length : Int) > 8 := by simpa using h
      omega
    repeat (first | with_reducible refine atK.mk ?_ | with_reducible refine wChk_nil ?_ | with_reducible refine wChk1_nil ?_ | ((with_reducible refine id_wP ?_); first | refine xAdd ?_ | refine xSub ?_ | refine xConv ?_ | refine xMul ?_ | refine wP_max ?_ | refine xIaN ?_ | refine xIaO ?_ | refine xIaU ?_ | refine xBuild ?_ | refine xPure ?_) | ((with_reducible refine id_wR ?_); refine id_new ?_; refine xRead ?_) | ((with_reducible refine id_wA ?_); first | refine xBsl ?_ | refine xAlloc ?_) | ((with_reducible refine id_wE ?_); refine id_newS ?_; refine xStore ?_) | ((with_reducible refine id_asB ?_); first | refine xTt ?_ | refine xFf ?_))
    exact no (by simp [rightB, h4])
  have h4 : sl.length ≤ 8 := by
    have h' : ¬ (sl.length : Int) > 8 := by simpa using h
    omega
  repeat (first | with_reducible refine atK.mk ?_ | with_reducible refine wChk_nil ?_ | with_reducible refine wChk1_nil ?_ | ((with_reducible refine id_wP ?_); first | refine xAdd ?_ | refine xSub ?_ | refine xConv ?_ | refine xMul ?_ | refine wP_max ?_ | refine xIaN ?_ | refine xIaO ?_ | refine xIaU ?_ | refine xBuild ?_ | refine xPure ?_) | ((with_reducible refine id_wR ?_); refine id_new ?_; refine xRead ?_) | ((with_reducible refine id_wA ?_); first | refine xBsl ?_ | refine xAlloc ?_) | ((with_reducible refine id_wE ?_); refine id_newS ?_; refine xStore ?_) | ((with_reducible refine id_asB ?_); first | refine xTt ?_ | refine xFf ?_))
  cases sl with
  | nil => simp at h3
  | cons f r =>
    have hr1 := hr.keep (H' := H.push (.row [iv ep, chv] 0)) (M := []) (by exact kp) (by simp)
    refine hr1.iadd (i := 0) (by simp) (seL_at (f := f) rfl) fun p hp => ?_
    have hp0 := hp _ [] Keeps.refl (by simp)
    have syn : ∀ Q' : Value → Prop, Q' (.bool f.syn) → wP (.fadd 2) [p] fun x => wR (.load 1 false) [x] (H.push (.row [iv ep, chv] 0)) Q' := by
      intro Q' q'
      cases hp0 with
      | new b o all cs e h hc =>
        refine wP.mk _ rfl ?_
        refine wR_new (v := .bool f.syn) h.get ?_ q'
        have hz := takeN_drop (i := 2) (n := 1) (cs := [.bool f.syn]) hc (by omega) rfl
        rw [List.drop_drop] at hz
        unfold ldv
        show (match takeN (all.drop (o + 2)) 1 with | some l => _ | none => _) = _
        rw [hz]
        rfl
      | old b o cs h =>
        refine wP.mk _ rfl ?_
        refine wR_old (v := .bool f.syn) ?_ q'
        exact ldb_one (rdBase_drop (i := 2) (n := 1) h (by omega) rfl)
    refine syn _ ?_
    repeat (first | with_reducible refine atK.mk ?_ | with_reducible refine wChk_nil ?_ | with_reducible refine wChk1_nil ?_ | ((with_reducible refine id_wP ?_); first | refine xAdd ?_ | refine xSub ?_ | refine xConv ?_ | refine xMul ?_ | refine wP_max ?_ | refine xIaN ?_ | refine xIaO ?_ | refine xIaU ?_ | refine xBuild ?_ | refine xPure ?_) | ((with_reducible refine id_wR ?_); refine id_new ?_; refine xRead ?_) | ((with_reducible refine id_wA ?_); first | refine xBsl ?_ | refine xAlloc ?_) | ((with_reducible refine id_wE ?_); refine id_newS ?_; refine xStore ?_) | ((with_reducible refine id_asB ?_); first | refine xTt ?_ | refine xFf ?_))
    refine asB_both (fun h => ?_) fun h => ?_
    · have h5 : f.syn = false := by simpa using h
      repeat (first | with_reducible refine atK.mk ?_ | with_reducible refine wChk_nil ?_ | with_reducible refine wChk1_nil ?_ | ((with_reducible refine id_wP ?_); first | refine xAdd ?_ | refine xSub ?_ | refine xConv ?_ | refine xMul ?_ | refine wP_max ?_ | refine xIaN ?_ | refine xIaO ?_ | refine xIaU ?_ | refine xBuild ?_ | refine xPure ?_) | ((with_reducible refine id_wR ?_); refine id_new ?_; refine xRead ?_) | ((with_reducible refine id_wA ?_); first | refine xBsl ?_ | refine xAlloc ?_) | ((with_reducible refine id_wE ?_); refine id_newS ?_; refine xStore ?_) | ((with_reducible refine id_asB ?_); first | refine xTt ?_ | refine xFf ?_))
      exact no (by simp [rightB, h5])
    have h5 : f.syn = true := by simpa using h
    repeat (first | with_reducible refine atK.mk ?_ | with_reducible refine wChk_nil ?_ | with_reducible refine wChk1_nil ?_ | ((with_reducible refine id_wP ?_); first | refine xAdd ?_ | refine xSub ?_ | refine xConv ?_ | refine xMul ?_ | refine wP_max ?_ | refine xIaN ?_ | refine xIaO ?_ | refine xIaU ?_ | refine xBuild ?_ | refine xPure ?_) | ((with_reducible refine id_wR ?_); refine id_new ?_; refine xRead ?_) | ((with_reducible refine id_wA ?_); first | refine xBsl ?_ | refine xAlloc ?_) | ((with_reducible refine id_wE ?_); refine id_newS ?_; refine xStore ?_) | ((with_reducible refine id_asB ?_); first | refine xTt ?_ | refine xFf ?_))
    refine hr.lenS ?_
    refine right_loop h4 (by have z := At.new (H := H.push (.row [iv ep, chv] 0)) (X := .row (seenR []) 0); simpa [seenR] using z) (hr.keep (M := []) (by exact kp) (by simp)) (fun hb => by have := hr.lt _ hb; simp only [next_push] at this; omega) fun H' k' => ?_
    have := q H' (Keeps.comp (M := []) (Ha := (H.push (.row [iv ep, chv] 0)).push (.row (seenR []) 0)) (by exact kp) k' (fun b hb => .inr (by simp only [List.mem_singleton] at hb; subst hb; simp only [next_push]; omega)))
    simp only [rightB, h1, h2, h3, h4, h5, decide_true, Bool.true_and] at this
    exact this

end Go.Proofs.Ytfflfehfjgkcdaa.D
