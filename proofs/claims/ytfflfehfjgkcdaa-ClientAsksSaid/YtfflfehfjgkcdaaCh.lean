/- The client's functions: a message of fires; what was handed on, told. No statement of the seat is proved in this text. -/
import Derived.Test.YtfflfehfjgkcdaaCg
set_option linter.unusedSimpArgs false
set_option linter.unusedVariables false
set_option maxRecDepth 100000
namespace Go.Proofs.Ytfflfehfjgkcdaa.D
open Go

def handM (a cu : Int) (hl : List Fi) : List Fi → List Fi
  | [] => hl
  | f :: r => handM a cu (hand1 a cu hl f) r

theorem handM_snoc (a cu : Int) : ∀ (l : List Fi) (hl : List Fi) (f : Fi), handM a cu hl (l ++ [f]) = hand1 a cu (handM a cu hl l) f
  | [], hl, f => rfl
  | g :: l, hl, f => handM_snoc a cu l _ f

theorem hand1_len (a cu : Int) (hl : List Fi) (f : Fi) : (hand1 a cu hl f).length ≤ hl.length + 1 := by
  unfold hand1
  split <;> simp

theorem handM_len (a cu : Int) : ∀ (l hl : List Fi), (handM a cu hl l).length ≤ hl.length + l.length
  | [], hl => by simp [handM]
  | g :: l, hl => by
    have h1 := handM_len a cu l (hand1 a cu hl g)
    have h2 := hand1_len a cu hl g
    simp only [handM, List.length_cons]
    omega

/-- All fires of a message. -/
theorem s_hand {H : Heap} {x m mb e : Nat} {a cu sq : Int} {c1 c2 c3 c4 c5 ha fv m0 m1 m2 m3 m4 m6 m7 m8 m9 m10 m11 m12 m13 m14 m15 m16 m17 m18 m19 m20 m21 m22 m23 m24 m25 m27 : Value} {hl ml : List Fi} {Q : Value → Heap → Prop} (h : CC H x m a c1 c2 c3 c4 c5 ha hl cu)
    (hmb : At H mb (.row [m0, m1, m2, m3, m4, iv sq, m6, m7, m8, m9, m10, m11, m12, m13, m14, m15, m16, m17, m18, m19, m20, m21, m22, m23, m24, m25, fv, m27] e)) (hf : RSl 6 H fv ml.length (fiL ml)) (hd : ∀ b ∈ newOf fv, b ≠ x ∧ b ≠ m ∧ b ∉ blkOf ha) (hl1 : hl.length ≤ 100000) (hml : ml.length ≤ 100000) (hne : mb ≠ x ∧ mb ≠ m ∧ mb ∉ blkOf ha)
    (q : ∀ H' ha', CC H' x m a c1 c2 c3 c4 c5 ha' (handM a cu hl ml) (max cu sq) → Keeps H H' (x :: m :: blkOf ha) → (ha' = ha ∨ ∀ b ∈ blkOf ha', H.next ≤ b) → Q (.tuple ⟨[]⟩) H') :
    EvC 27 [pt x, pt mb] H Q := by
  have hxl := h.row.lt
  have hmbl := hmb.lt
  refine Ev.fn (d := k27) rfl (Nat.le_of_ble_eq_true rfl) ?_
  rw [e27]
  repeat (first | with_reducible refine atK.mk ?_ | with_reducible refine wChk_nil ?_ | with_reducible refine wChk1_nil ?_ | ((with_reducible refine id_wP ?_); first | refine xAdd ?_ | refine xSub ?_ | refine xConv ?_ | refine xMul ?_ | refine wP_max ?_ | refine xIaN ?_ | refine xIaO ?_ | refine xIaU ?_ | refine xBuild ?_ | refine xPure ?_) | ((with_reducible refine id_wR ?_); refine id_new ?_; refine xRead ?_) | ((with_reducible refine id_wA ?_); first | refine xBsl ?_ | refine xAlloc ?_) | ((with_reducible refine id_wE ?_); refine id_newS ?_; refine xStore ?_) | ((with_reducible refine id_asB ?_); first | refine xTt ?_ | refine xFf ?_))
  refine hf.lenS ?_
  refine wLoop_range ml.length (fun i wf H' => wf = frH x mb fv ml.length i ∧ ∃ ha', CC H' x m a c1 c2 c3 c4 c5 ha' (handM a cu hl (ml.take i)) cu ∧ Keeps H H' (x :: m :: blkOf ha) ∧ (ha' = ha ∨ ∀ b ∈ blkOf ha', H.next ≤ b)) ?_ ?_ ⟨rfl, ha, h, Keeps.refl', .inl rfl⟩
  · rintro i wf H' hi ⟨rfl, ha', hc, hk, ho⟩ K' hK'
    have hM : ∀ b ∈ newOf fv, b ∉ (x :: m :: blkOf ha) := by
      intro b hb
      obtain ⟨h1, h2, h3⟩ := hd b hb
      simp only [List.mem_cons, not_or]
      exact ⟨h1, h2, h3⟩
    have hlt := handM_len a cu (ml.take i) hl
    have htl : (ml.take i).length ≤ ml.length := by simp; omega
    refine hand_iter hc (hf.keep hk hM) (List.getElem?_eq_getElem hi) (by omega) rfl (by omega) fun H2 ha2 hc2 hk2 ho2 => ?_
    refine hK' _ H2 ⟨rfl, ha2, ?_, ?_, ?_⟩
    · rw [show ml.take (i + 1) = ml.take i ++ [ml[i]] by rw [List.take_add_one, List.getElem?_eq_getElem hi]; rfl, handM_snoc]
      exact hc2
    · refine hk.comp hk2 fun b hb => ?_
      simp only [List.mem_cons] at hb ⊢
      rcases hb with rfl | rfl | hb
      · exact .inl (.inl rfl)
      · exact .inl (.inr (.inl rfl))
      · rcases ho with rfl | ho
        · exact .inl (.inr (.inr hb))
        · exact .inr (ho b hb)
    · rcases ho2 with rfl | ho2
      · exact ho
      · exact .inr fun b hb => Nat.le_trans hk.next (ho2 b hb)
  · rintro wf H' ⟨rfl, ha', hc, hk, ho⟩ K'
    rw [List.take_length] at hc
    have hx2 := hc.row
    have hmb2 : At H' mb _ := hmb.keep hk (by simp only [List.mem_cons, not_or]; exact hne)
    rw [l27_2]
    repeat (first | with_reducible refine atK.mk ?_ | with_reducible refine wChk_nil ?_ | with_reducible refine wChk1_nil ?_ | ((with_reducible refine id_wP ?_); first | refine xAdd ?_ | refine xSub ?_ | refine xConv ?_ | refine xMul ?_ | refine wP_max ?_ | refine xIaN ?_ | refine xIaO ?_ | refine xIaU ?_ | refine xBuild ?_ | refine xPure ?_) | ((with_reducible refine id_wR ?_); refine id_new ?_; refine xRead ?_) | ((with_reducible refine id_wA ?_); first | refine xBsl ?_ | refine xAlloc ?_) | ((with_reducible refine id_wE ?_); refine id_newS ?_; refine xStore ?_) | ((with_reducible refine id_asB ?_); first | refine xTt ?_ | refine xFf ?_))
    show q27_1 (look tb) nvNone Q (.exit 0) (mkW [(0, pt x), (1, pt mb)]) H'
    rw [x27_2_0]
    repeat (first | with_reducible refine atK.mk ?_ | with_reducible refine wChk_nil ?_ | with_reducible refine wChk1_nil ?_ | ((with_reducible refine id_wP ?_); first | refine xAdd ?_ | refine xSub ?_ | refine xConv ?_ | refine xMul ?_ | refine wP_max ?_ | refine xIaN ?_ | refine xIaO ?_ | refine xIaU ?_ | refine xBuild ?_ | refine xPure ?_) | ((with_reducible refine id_wR ?_); refine id_new ?_; refine xRead ?_) | ((with_reducible refine id_wA ?_); first | refine xBsl ?_ | refine xAlloc ?_) | ((with_reducible refine id_wE ?_); refine id_newS ?_; refine xStore ?_) | ((with_reducible refine id_asB ?_); first | refine xTt ?_ | refine xFf ?_))
    rw [e27_13]
    repeat (first | with_reducible refine atK.mk ?_ | with_reducible refine wChk_nil ?_ | with_reducible refine wChk1_nil ?_ | ((with_reducible refine id_wP ?_); first | refine xAdd ?_ | refine xSub ?_ | refine xConv ?_ | refine xMul ?_ | refine wP_max ?_ | refine xIaN ?_ | refine xIaO ?_ | refine xIaU ?_ | refine xBuild ?_ | refine xPure ?_) | ((with_reducible refine id_wR ?_); refine id_new ?_; refine xRead ?_) | ((with_reducible refine id_wA ?_); first | refine xBsl ?_ | refine xAlloc ?_) | ((with_reducible refine id_wE ?_); refine id_newS ?_; refine xStore ?_) | ((with_reducible refine id_asB ?_); first | refine xTt ?_ | refine xFf ?_))
    refine q _ ha' ⟨by exact atp, ?_, ?_⟩ ?_ ho
    · have hxu : x ∉ blkOf ha' := hc.sl.ne hx2 (by simp)
      exact hc.sl.keep (M := [x]) (by exact kp) (fun b h1 h2 => hxu (by simp only [List.mem_singleton] at h2; subst h2; exact h1))
    · obtain ⟨es, ck, h1, h2⟩ := hc.seen
      have hmx : m ≠ x := h1.ne hx2 (by simp)
      exact ⟨es, ck, by exact atp, h2⟩
    · exact hk.comp (N := [x]) (by exact kp) (by simp)

theorem s_takeFires {H : Heap} {x m : Nat} {a cu sq : Int} {c1 c2 c3 c4 c5 ha fv now m1 m2 m3 m4 m6 m7 m8 m9 m10 m11 m12 m13 m14 m15 m16 m17 m18 m19 m20 m21 m22 m23 m24 m25 m27 : Value} {hl ml : List Fi} {Q : Value → Heap → Prop} (h : CC H x m a c1 c2 c3 c4 c5 ha hl cu)
    (hf : RSl 6 H fv ml.length (fiL ml)) (hd : ∀ b ∈ newOf fv, b ≠ x ∧ b ≠ m ∧ b ∉ blkOf ha ∧ b < H.next) (hl1 : hl.length ≤ 100000) (hml : ml.length ≤ 100000)
    (q : ∀ H' ha', CC H' x m a c1 c2 c3 c4 c5 ha' (handM a cu hl ml) (max cu sq) → Keeps H H' (x :: m :: blkOf ha) → (ha' = ha ∨ ∀ b ∈ blkOf ha', H.next ≤ b) → Q (.slice none 0 0) H') :
    EvC 11 [pt x, .agg ⟨[iv 14, m1, m2, m3, m4, iv sq, m6, m7, m8, m9, m10, m11, m12, m13, m14, m15, m16, m17, m18, m19, m20, m21, m22, m23, m24, m25, fv, m27]⟩, now] H Q := by
  have hxl := h.row.lt
  have hx := h.row
  refine Ev.fn (d := k11) rfl (Nat.le_of_ble_eq_true rfl) ?_
  rw [e11]
  repeat (first | with_reducible refine atK.mk ?_ | with_reducible refine wChk_nil ?_ | with_reducible refine wChk1_nil ?_ | ((with_reducible refine id_wP ?_); first | refine xAdd ?_ | refine xSub ?_ | refine xConv ?_ | refine xMul ?_ | refine wP_max ?_ | refine xIaN ?_ | refine xIaO ?_ | refine xIaU ?_ | refine xBuild ?_ | refine xPure ?_) | ((with_reducible refine id_wR ?_); refine id_new ?_; refine xRead ?_) | ((with_reducible refine id_wA ?_); first | refine xBsl ?_ | refine xAlloc ?_) | ((with_reducible refine id_wE ?_); refine id_newS ?_; refine xStore ?_) | ((with_reducible refine id_asB ?_); first | refine xTt ?_ | refine xFf ?_))
  rw [e11_18]
  repeat (first | with_reducible refine atK.mk ?_ | with_reducible refine wChk_nil ?_ | with_reducible refine wChk1_nil ?_ | ((with_reducible refine id_wP ?_); first | refine xAdd ?_ | refine xSub ?_ | refine xConv ?_ | refine xMul ?_ | refine wP_max ?_ | refine xIaN ?_ | refine xIaO ?_ | refine xIaU ?_ | refine xBuild ?_ | refine xPure ?_) | ((with_reducible refine id_wR ?_); refine id_new ?_; refine xRead ?_) | ((with_reducible refine id_wA ?_); first | refine xBsl ?_ | refine xAlloc ?_) | ((with_reducible refine id_wE ?_); refine id_newS ?_; refine xStore ?_) | ((with_reducible refine id_asB ?_); first | refine xTt ?_ | refine xFf ?_))
  have hk : Keeps H (H.push (.row [iv 14, m1, m2, m3, m4, iv sq, m6, m7, m8, m9, m10, m11, m12, m13, m14, m15, m16, m17, m18, m19, m20, m21, m22, m23, m24, m25, fv, m27] 0)) [] := Keeps.push
  obtain ⟨es, ck, hmm, hms⟩ := _root_.id h.seen
  have hml2 := hmm.lt
  have hn : H.next ∉ blkOf ha := fun hb => by have := h.sl.lt _ hb; omega
  refine s_hand (h.keep hk (by simp) (by simp) (by simp)) At.new (hf.keep hk (by simp)) (fun b hb => ⟨(hd b hb).1, (hd b hb).2.1, (hd b hb).2.2.1⟩) hl1 hml ⟨by omega, by omega, hn⟩ fun H' ha' hc' hk' ho' => ?_
  repeat (first | with_reducible refine atK.mk ?_ | with_reducible refine wChk_nil ?_ | with_reducible refine wChk1_nil ?_ | ((with_reducible refine id_wP ?_); first | refine xAdd ?_ | refine xSub ?_ | refine xConv ?_ | refine xMul ?_ | refine wP_max ?_ | refine xIaN ?_ | refine xIaO ?_ | refine xIaU ?_ | refine xBuild ?_ | refine xPure ?_) | ((with_reducible refine id_wR ?_); refine id_new ?_; refine xRead ?_) | ((with_reducible refine id_wA ?_); first | refine xBsl ?_ | refine xAlloc ?_) | ((with_reducible refine id_wE ?_); refine id_newS ?_; refine xStore ?_) | ((with_reducible refine id_asB ?_); first | refine xTt ?_ | refine xFf ?_))
  rw [e11_21]
  repeat (first | with_reducible refine atK.mk ?_ | with_reducible refine wChk_nil ?_ | with_reducible refine wChk1_nil ?_ | ((with_reducible refine id_wP ?_); first | refine xAdd ?_ | refine xSub ?_ | refine xConv ?_ | refine xMul ?_ | refine wP_max ?_ | refine xIaN ?_ | refine xIaO ?_ | refine xIaU ?_ | refine xBuild ?_ | refine xPure ?_) | ((with_reducible refine id_wR ?_); refine id_new ?_; refine xRead ?_) | ((with_reducible refine id_wA ?_); first | refine xBsl ?_ | refine xAlloc ?_) | ((with_reducible refine id_wE ?_); refine id_newS ?_; refine xStore ?_) | ((with_reducible refine id_asB ?_); first | refine xTt ?_ | refine xFf ?_))
  refine q H' ha' hc' ((Keeps.push' Keeps.refl').comp hk' fun b hb => .inl hb) ?_
  rcases ho' with rfl | ho'
  · exact .inl rfl
  · exact .inr fun b hb => by have := ho' b hb; simp only [next_push] at this; omega

theorem s_cursor {H : Heap} {x e : Nat} {c0 c1 c2 c3 c4 c5 c6 c7 c8 : Value} {Q : Value → Heap → Prop} (hx : At H x (.row [c0, c1, c2, c3, c4, c5, c6, c7, c8] e)) (q : Q c8 H) : EvC 14 [pt x] H Q := by
  refine Ev.fn (d := k14) rfl (Nat.le_of_ble_eq_true rfl) ?_
  rw [e14]
  repeat (first | with_reducible refine atK.mk ?_ | with_reducible refine wChk_nil ?_ | with_reducible refine wChk1_nil ?_ | ((with_reducible refine id_wP ?_); first | refine xAdd ?_ | refine xSub ?_ | refine xConv ?_ | refine xMul ?_ | refine wP_max ?_ | refine xIaN ?_ | refine xIaO ?_ | refine xIaU ?_ | refine xBuild ?_ | refine xPure ?_) | ((with_reducible refine id_wR ?_); refine id_new ?_; refine xRead ?_) | ((with_reducible refine id_wA ?_); first | refine xBsl ?_ | refine xAlloc ?_) | ((with_reducible refine id_wE ?_); refine id_newS ?_; refine xStore ?_) | ((with_reducible refine id_asB ?_); first | refine xTt ?_ | refine xFf ?_))
  exact q

/-- What was handed on, told: another slice with the same. -/
theorem s_handed {H : Heap} {x m : Nat} {a cu : Int} {c1 c2 c3 c4 c5 ha : Value} {hl : List Fi} {Q : Value → Heap → Prop} (h : CC H x m a c1 c2 c3 c4 c5 ha hl cu) (hl1 : hl.length ≤ 1000000)
    (q : ∀ H' v, Keeps H H' [] → RSl 6 H' v hl.length (fiL hl) → (∀ b ∈ newOf v, H.next ≤ b) → Q v H') : EvC 15 [pt x] H Q := by
  have hx := h.row
  refine Ev.fn (d := k15) rfl (Nat.le_of_ble_eq_true rfl) ?_
  rw [e15]
  repeat (first | with_reducible refine atK.mk ?_ | with_reducible refine wChk_nil ?_ | with_reducible refine wChk1_nil ?_ | ((with_reducible refine id_wP ?_); first | refine xAdd ?_ | refine xSub ?_ | refine xConv ?_ | refine xMul ?_ | refine wP_max ?_ | refine xIaN ?_ | refine xIaO ?_ | refine xIaU ?_ | refine xBuild ?_ | refine xPure ?_) | ((with_reducible refine id_wR ?_); refine id_new ?_; refine xRead ?_) | ((with_reducible refine id_wA ?_); first | refine xBsl ?_ | refine xAlloc ?_) | ((with_reducible refine id_wE ?_); refine id_newS ?_; refine xStore ?_) | ((with_reducible refine id_asB ?_); first | refine xTt ?_ | refine xFf ?_))
  refine Ev.fn (d := k28) rfl (Nat.le_of_ble_eq_true rfl) ?_
  rw [e28]
  have hu := h.sl
  generalize hL : fiL hl = L at hu q
  generalize hn : hl.length = n at hu q hl1
  cases hu with
  | nil =>
    repeat (first | with_reducible refine atK.mk ?_ | with_reducible refine wChk_nil ?_ | with_reducible refine wChk1_nil ?_ | ((with_reducible refine id_wP ?_); first | refine xAdd ?_ | refine xSub ?_ | refine xConv ?_ | refine xMul ?_ | refine wP_max ?_ | refine xIaN ?_ | refine xIaO ?_ | refine xIaU ?_ | refine xBuild ?_ | refine xPure ?_) | ((with_reducible refine id_wR ?_); refine id_new ?_; refine xRead ?_) | ((with_reducible refine id_wA ?_); first | refine xBsl ?_ | refine xAlloc ?_) | ((with_reducible refine id_wE ?_); refine id_newS ?_; refine xStore ?_) | ((with_reducible refine id_asB ?_); first | refine xTt ?_ | refine xFf ?_))
    exact q _ _ Keeps.refl .nil (by simp [newOf])
  | mk b o len cs hb hlen =>
    repeat (first | with_reducible refine atK.mk ?_ | with_reducible refine wChk_nil ?_ | with_reducible refine wChk1_nil ?_ | ((with_reducible refine id_wP ?_); first | refine xAdd ?_ | refine xSub ?_ | refine xConv ?_ | refine xMul ?_ | refine wP_max ?_ | refine xIaN ?_ | refine xIaO ?_ | refine xIaU ?_ | refine xBuild ?_ | refine xPure ?_) | ((with_reducible refine id_wR ?_); refine id_new ?_; refine xRead ?_) | ((with_reducible refine id_wA ?_); first | refine xBsl ?_ | refine xAlloc ?_) | ((with_reducible refine id_wE ?_); refine id_newS ?_; refine xStore ?_) | ((with_reducible refine id_asB ?_); first | refine xTt ?_ | refine xFf ?_))
    have hsrc : srcD 6 (.slice (some ⟨b, o, some 7⟩) n 0) (H.push (.row [] 6)) = some (n, cs.drop o) := (USl.mk b o n cs hb.push hlen).src
    by_cases h0 : n = 0
    · subst h0
      refine wE_app0 hsrc ⟨_, _, _, rfl⟩ ?_
      repeat (first | with_reducible refine atK.mk ?_ | with_reducible refine wChk_nil ?_ | with_reducible refine wChk1_nil ?_ | ((with_reducible refine id_wP ?_); first | refine xAdd ?_ | refine xSub ?_ | refine xConv ?_ | refine xMul ?_ | refine wP_max ?_ | refine xIaN ?_ | refine xIaO ?_ | refine xIaU ?_ | refine xBuild ?_ | refine xPure ?_) | ((with_reducible refine id_wR ?_); refine id_new ?_; refine xRead ?_) | ((with_reducible refine id_wA ?_); first | refine xBsl ?_ | refine xAlloc ?_) | ((with_reducible refine id_wE ?_); refine id_newS ?_; refine xStore ?_) | ((with_reducible refine id_asB ?_); first | refine xTt ?_ | refine xFf ?_))
      refine q _ _ (Keeps.push' Keeps.refl') ?_ (by simp [newOf])
      have e : cs.drop o = [] := by
        have : (cs.drop o).length = 0 := by simp; omega
        exact List.eq_nil_of_length_eq_zero this
      rw [e]
      exact .new H.next 0 0 0 none (.inl rfl) [] [] 6 At.new rfl
    · refine wE_appFull (old := []) hsrc h0 (by omega) ?_ (roomD_le (by omega)) ?_
      · simp only [Heap.cells, At.new.get]
        rfl
      repeat (first | with_reducible refine atK.mk ?_ | with_reducible refine wChk_nil ?_ | with_reducible refine wChk1_nil ?_ | ((with_reducible refine id_wP ?_); first | refine xAdd ?_ | refine xSub ?_ | refine xConv ?_ | refine xMul ?_ | refine wP_max ?_ | refine xIaN ?_ | refine xIaO ?_ | refine xIaU ?_ | refine xBuild ?_ | refine xPure ?_) | ((with_reducible refine id_wR ?_); refine id_new ?_; refine xRead ?_) | ((with_reducible refine id_wA ?_); first | refine xBsl ?_ | refine xAlloc ?_) | ((with_reducible refine id_wE ?_); refine id_newS ?_; refine xStore ?_) | ((with_reducible refine id_asB ?_); first | refine xTt ?_ | refine xFf ?_))
      refine q _ _ (by exact kp) ?_ (by simp [newOf, next_push])
      have hlen2 : (cs.drop o).length = n * 6 := by simp; omega
      have z := RSl.new (n := 6) (H := (H.push (.row [] 6)).push (.row ([] ++ cs.drop o) 6)) (H.push (.row [] 6)).next 0 n 0 (some 7) (.inr ⟨6, rfl⟩) ([] ++ cs.drop o) (cs.drop o) 6 At.new (by
        rw [takeN_take (by simp only [List.drop_zero, List.nil_append]; omega)]
        simp only [List.drop_zero, List.nil_append]
        rw [List.take_of_length_le (by omega)])
      rw [Nat.zero_add]
      exact z

end Go.Proofs.Ytfflfehfjgkcdaa.D
