/- The reference's Right and Same; the client's Config. No statement of the seat is proved in this text. -/
import Derived.Test.YtfflfehfjgkcdaaCo
set_option linter.unusedSimpArgs false
set_option linter.unusedVariables false
set_option maxRecDepth 100000
namespace Go.Proofs.Ytfflfehfjgkcdaa.D
open Go

theorem s_may29 {H : Heap} {node life : Int} {Q : Value → Heap → Prop} (q : ∀ H', Keeps H H' [] → Q (.bool (Se.ok ⟨node, life, true⟩)) H') : EvC 29 [.agg ⟨[iv node, iv life]⟩] H Q := by
  have kk : Keeps H (H.push (.row [iv node, iv life] 0)) [] := by exact kp
  have z := q _ kk
  refine Ev.fn (d := k29) rfl (Nat.le_of_ble_eq_true rfl) ?_
  rw [e29]
  repeat (first | with_reducible refine atK.mk ?_ | with_reducible refine wChk_nil ?_ | with_reducible refine wChk1_nil ?_ | ((with_reducible refine id_wP ?_); first | refine xAdd ?_ | refine xSub ?_ | refine xConv ?_ | refine xMul ?_ | refine wP_max ?_ | refine xIaN ?_ | refine xIaO ?_ | refine xIaU ?_ | refine xBuild ?_ | refine xPure ?_) | ((with_reducible refine id_wR ?_); refine id_new ?_; refine xRead ?_) | ((with_reducible refine id_wA ?_); first | refine xBsl ?_ | refine xAlloc ?_) | ((with_reducible refine id_wE ?_); refine id_newS ?_; refine xStore ?_) | ((with_reducible refine id_asB ?_); first | refine xTt ?_ | refine xFf ?_))
  refine asB_both (fun h => ?_) fun h => ?_
  · have h1 : 0 ≤ node := by simpa using h
    repeat (first | with_reducible refine atK.mk ?_ | with_reducible refine wChk_nil ?_ | with_reducible refine wChk1_nil ?_ | ((with_reducible refine id_wP ?_); first | refine xAdd ?_ | refine xSub ?_ | refine xConv ?_ | refine xMul ?_ | refine wP_max ?_ | refine xIaN ?_ | refine xIaO ?_ | refine xIaU ?_ | refine xBuild ?_ | refine xPure ?_) | ((with_reducible refine id_wR ?_); refine id_new ?_; refine xRead ?_) | ((with_reducible refine id_wA ?_); first | refine xBsl ?_ | refine xAlloc ?_) | ((with_reducible refine id_wE ?_); refine id_newS ?_; refine xStore ?_) | ((with_reducible refine id_asB ?_); first | refine xTt ?_ | refine xFf ?_))
    refine asB_both (fun h => ?_) fun h => ?_
    · have h2 : node < 8 := by
        have : node ≤ 7 := by simpa using h
        omega
      repeat (first | with_reducible refine atK.mk ?_ | with_reducible refine wChk_nil ?_ | with_reducible refine wChk1_nil ?_ | ((with_reducible refine id_wP ?_); first | refine xAdd ?_ | refine xSub ?_ | refine xConv ?_ | refine xMul ?_ | refine wP_max ?_ | refine xIaN ?_ | refine xIaO ?_ | refine xIaU ?_ | refine xBuild ?_ | refine xPure ?_) | ((with_reducible refine id_wR ?_); refine id_new ?_; refine xRead ?_) | ((with_reducible refine id_wA ?_); first | refine xBsl ?_ | refine xAlloc ?_) | ((with_reducible refine id_wE ?_); refine id_newS ?_; refine xStore ?_) | ((with_reducible refine id_asB ?_); first | refine xTt ?_ | refine xFf ?_))
      refine asB_both (fun h => ?_) fun h => ?_
      · have h3 : 1 ≤ life := by simpa using h
        repeat (first | with_reducible refine atK.mk ?_ | with_reducible refine wChk_nil ?_ | with_reducible refine wChk1_nil ?_ | ((with_reducible refine id_wP ?_); first | refine xAdd ?_ | refine xSub ?_ | refine xConv ?_ | refine xMul ?_ | refine wP_max ?_ | refine xIaN ?_ | refine xIaO ?_ | refine xIaU ?_ | refine xBuild ?_ | refine xPure ?_) | ((with_reducible refine id_wR ?_); refine id_new ?_; refine xRead ?_) | ((with_reducible refine id_wA ?_); first | refine xBsl ?_ | refine xAlloc ?_) | ((with_reducible refine id_wE ?_); refine id_newS ?_; refine xStore ?_) | ((with_reducible refine id_asB ?_); first | refine xTt ?_ | refine xFf ?_))
        simp only [Se.ok, h1, h2, h3, decide_true, Bool.true_and] at z
        exact z
      · have h3 : ¬ 1 ≤ life := by simpa using h
        repeat (first | with_reducible refine atK.mk ?_ | with_reducible refine wChk_nil ?_ | with_reducible refine wChk1_nil ?_ | ((with_reducible refine id_wP ?_); first | refine xAdd ?_ | refine xSub ?_ | refine xConv ?_ | refine xMul ?_ | refine wP_max ?_ | refine xIaN ?_ | refine xIaO ?_ | refine xIaU ?_ | refine xBuild ?_ | refine xPure ?_) | ((with_reducible refine id_wR ?_); refine id_new ?_; refine xRead ?_) | ((with_reducible refine id_wA ?_); first | refine xBsl ?_ | refine xAlloc ?_) | ((with_reducible refine id_wE ?_); refine id_newS ?_; refine xStore ?_) | ((with_reducible refine id_asB ?_); first | refine xTt ?_ | refine xFf ?_))
        simp only [Se.ok, h3, decide_false, Bool.and_false, Bool.false_and] at z
        exact z
    · have h2 : ¬ node < 8 := by
        have : ¬ node ≤ 7 := by simpa using h
        omega
      repeat (first | with_reducible refine atK.mk ?_ | with_reducible refine wChk_nil ?_ | with_reducible refine wChk1_nil ?_ | ((with_reducible refine id_wP ?_); first | refine xAdd ?_ | refine xSub ?_ | refine xConv ?_ | refine xMul ?_ | refine wP_max ?_ | refine xIaN ?_ | refine xIaO ?_ | refine xIaU ?_ | refine xBuild ?_ | refine xPure ?_) | ((with_reducible refine id_wR ?_); refine id_new ?_; refine xRead ?_) | ((with_reducible refine id_wA ?_); first | refine xBsl ?_ | refine xAlloc ?_) | ((with_reducible refine id_wE ?_); refine id_newS ?_; refine xStore ?_) | ((with_reducible refine id_asB ?_); first | refine xTt ?_ | refine xFf ?_))
      simp only [Se.ok, h2, decide_false, Bool.and_false, Bool.false_and] at z
      exact z
  · have h1 : ¬ 0 ≤ node := by simpa using h
    repeat (first | with_reducible refine atK.mk ?_ | with_reducible refine wChk_nil ?_ | with_reducible refine wChk1_nil ?_ | ((with_reducible refine id_wP ?_); first | refine xAdd ?_ | refine xSub ?_ | refine xConv ?_ | refine xMul ?_ | refine wP_max ?_ | refine xIaN ?_ | refine xIaO ?_ | refine xIaU ?_ | refine xBuild ?_ | refine xPure ?_) | ((with_reducible refine id_wR ?_); refine id_new ?_; refine xRead ?_) | ((with_reducible refine id_wA ?_); first | refine xBsl ?_ | refine xAlloc ?_) | ((with_reducible refine id_wE ?_); refine id_newS ?_; refine xStore ?_) | ((with_reducible refine id_asB ?_); first | refine xTt ?_ | refine xFf ?_))
    simp only [Se.ok, h1, decide_false, Bool.and_false, Bool.false_and] at z
    exact z

abbrev fr16 (y : Nat) (i : Int) : WFr := mkW [(1, pt y), (3, iv i)]
abbrev fr16b (y : Nat) (i j : Int) : WFr := mkW [(1, pt y), (3, iv i), (4, iv j)]

theorem right_loop16 {H : Heap} {y e : Nat} {c0 chv : Value} {sl : List Se} {Q : Value → Heap → Prop} (hlen : sl.length ≤ 8) (hy : At H y (.row [c0, chv] e)) (hr : RSl 3 H chv sl.length (seL sl))
    (q : ∀ H', Keeps H H' [] → Q (.bool (sl.all Se.ok && decide (sl.map Se.node).Nodup)) H') : wLoop (look tb) nvNone c16_7 [1, 3] (fr16 y 0) H (q16_1 (look tb) nvNone Q) := by
  refine wLoop_range sl.length (fun k wf H' => wf = fr16 y k ∧ Keeps H H' [] ∧ (sl.take k).all Se.ok = true ∧ ((sl.take k).map Se.node).Nodup) ?_ ?_ ⟨rfl, Keeps.refl, rfl, by simp⟩
  · rintro k wf H' hi ⟨rfl, hk, hok, hnd⟩ K' hK'
    obtain ⟨f, hf⟩ : ∃ f, sl[k]? = some f := ⟨_, List.getElem?_eq_getElem hi⟩
    have hfm : f ∈ sl := List.mem_of_getElem? hf
    have htk : sl.take (k + 1) = sl.take k ++ [f] := by rw [List.take_add_one, hf]; rfl
    have hy1 := hy.keep0 hk
    have hyl := hy1.lt
    have hr1 := hr.keep hk (by simp)
    have bad : ∀ H2, Keeps H' H2 [] → (sl.all Se.ok && decide (sl.map Se.node).Nodup) = false → q16_1 (look tb) nvNone Q .ret (mkW [(2, .bool false)]) H2 := by
      intro H2 k2 e
      rw [x16_7_0]
      rw [e] at q
      exact q H2 (hk.comp0 k2)
    rw [l16_7]
    repeat (first | with_reducible refine atK.mk ?_ | with_reducible refine wChk_nil ?_ | with_reducible refine wChk1_nil ?_ | ((with_reducible refine id_wP ?_); first | refine xAdd ?_ | refine xSub ?_ | refine xConv ?_ | refine xMul ?_ | refine wP_max ?_ | refine xIaN ?_ | refine xIaO ?_ | refine xIaU ?_ | refine xBuild ?_ | refine xPure ?_) | ((with_reducible refine id_wR ?_); refine id_new ?_; refine xRead ?_) | ((with_reducible refine id_wA ?_); first | refine xBsl ?_ | refine xAlloc ?_) | ((with_reducible refine id_wE ?_); refine id_newS ?_; refine xStore ?_) | ((with_reducible refine id_asB ?_); first | refine xTt ?_ | refine xFf ?_))
    refine hr1.lenS ?_
    repeat (first | with_reducible refine atK.mk ?_ | with_reducible refine wChk_nil ?_ | with_reducible refine wChk1_nil ?_ | ((with_reducible refine id_wP ?_); first | refine xAdd ?_ | refine xSub ?_ | refine xConv ?_ | refine xMul ?_ | refine wP_max ?_ | refine xIaN ?_ | refine xIaO ?_ | refine xIaU ?_ | refine xBuild ?_ | refine xPure ?_) | ((with_reducible refine id_wR ?_); refine id_new ?_; refine xRead ?_) | ((with_reducible refine id_wA ?_); first | refine xBsl ?_ | refine xAlloc ?_) | ((with_reducible refine id_wE ?_); refine id_newS ?_; refine xStore ?_) | ((with_reducible refine id_asB ?_); first | refine xTt ?_ | refine xFf ?_))
    refine hr1.iadd hi (seL_at hf) fun p hp => ?_
    refine (hp H' [] Keeps.refl (by simp)).fadd (i := 0) (m := 2) (ds := [iv f.node, iv f.life]) rfl (by omega) fun p' hp' => ?_
    refine hp'.load ?_
    refine s_may29 fun H2 k2 => ?_
    have hy2 := hy1.keep0 k2
    have hr2 := hr1.keep k2 (by simp)
    have hk2 := hk.comp0 k2
    repeat (first | with_reducible refine atK.mk ?_ | with_reducible refine wChk_nil ?_ | with_reducible refine wChk1_nil ?_ | ((with_reducible refine id_wP ?_); first | refine xAdd ?_ | refine xSub ?_ | refine xConv ?_ | refine xMul ?_ | refine wP_max ?_ | refine xIaN ?_ | refine xIaO ?_ | refine xIaU ?_ | refine xBuild ?_ | refine xPure ?_) | ((with_reducible refine id_wR ?_); refine id_new ?_; refine xRead ?_) | ((with_reducible refine id_wA ?_); first | refine xBsl ?_ | refine xAlloc ?_) | ((with_reducible refine id_wE ?_); refine id_newS ?_; refine xStore ?_) | ((with_reducible refine id_asB ?_); first | refine xTt ?_ | refine xFf ?_))
    refine asB_both (fun h => ?_) fun h => ?_
    · have hb : Se.ok ⟨f.node, f.life, true⟩ = false := by simpa using h
      repeat (first | with_reducible refine atK.mk ?_ | with_reducible refine wChk_nil ?_ | with_reducible refine wChk1_nil ?_ | ((with_reducible refine id_wP ?_); first | refine xAdd ?_ | refine xSub ?_ | refine xConv ?_ | refine xMul ?_ | refine wP_max ?_ | refine xIaN ?_ | refine xIaO ?_ | refine xIaU ?_ | refine xBuild ?_ | refine xPure ?_) | ((with_reducible refine id_wR ?_); refine id_new ?_; refine xRead ?_) | ((with_reducible refine id_wA ?_); first | refine xBsl ?_ | refine xAlloc ?_) | ((with_reducible refine id_wE ?_); refine id_newS ?_; refine xStore ?_) | ((with_reducible refine id_asB ?_); first | refine xTt ?_ | refine xFf ?_))
      refine bad H2 k2 ?_
      have : sl.all Se.ok = false := by
        rw [List.all_eq_false]
        exact ⟨f, hfm, by rw [show f.ok = Se.ok ⟨f.node, f.life, true⟩ from rfl, hb]; simp⟩
      rw [this, Bool.false_and]
    have hb : Se.ok ⟨f.node, f.life, true⟩ = true := by simpa using h
    refine wLoop_range k (fun j wf H3 => wf = fr16b y k j ∧ H3 = H2 ∧ ∀ g ∈ sl.take j, g.node ≠ f.node) ?_ ?_ ⟨rfl, rfl, by simp⟩
    · rintro j wf H3 hj ⟨rfl, rfl, hne⟩ K2 hK2
      have hjl : j < sl.length := by omega
      obtain ⟨g, hg⟩ : ∃ g, sl[j]? = some g := ⟨_, List.getElem?_eq_getElem hjl⟩
      have htj : sl.take (j + 1) = sl.take j ++ [g] := by rw [List.take_add_one, hg]; rfl
      rw [l16_18]
      repeat (first | with_reducible refine atK.mk ?_ | with_reducible refine wChk_nil ?_ | with_reducible refine wChk1_nil ?_ | ((with_reducible refine id_wP ?_); first | refine xAdd ?_ | refine xSub ?_ | refine xConv ?_ | refine xMul ?_ | refine wP_max ?_ | refine xIaN ?_ | refine xIaO ?_ | refine xIaU ?_ | refine xBuild ?_ | refine xPure ?_) | ((with_reducible refine id_wR ?_); refine id_new ?_; refine xRead ?_) | ((with_reducible refine id_wA ?_); first | refine xBsl ?_ | refine xAlloc ?_) | ((with_reducible refine id_wE ?_); refine id_newS ?_; refine xStore ?_) | ((with_reducible refine id_asB ?_); first | refine xTt ?_ | refine xFf ?_))
      refine hr2.iadd hjl (seL_at hg) fun p1 hp1 => ?_
      refine (hp1 H3 [] Keeps.refl (by simp)).fadd (i := 0) (m := 2) (ds := [iv g.node, iv g.life]) rfl (by omega) fun p2 hp2 => ?_
      refine hp2.fadd (i := 0) (m := 1) (ds := [iv g.node]) rfl (by omega) fun p3 hp3 => ?_
      refine hp3.load1 ?_
      repeat (first | with_reducible refine atK.mk ?_ | with_reducible refine wChk_nil ?_ | with_reducible refine wChk1_nil ?_ | ((with_reducible refine id_wP ?_); first | refine xAdd ?_ | refine xSub ?_ | refine xConv ?_ | refine xMul ?_ | refine wP_max ?_ | refine xIaN ?_ | refine xIaO ?_ | refine xIaU ?_ | refine xBuild ?_ | refine xPure ?_) | ((with_reducible refine id_wR ?_); refine id_new ?_; refine xRead ?_) | ((with_reducible refine id_wA ?_); first | refine xBsl ?_ | refine xAlloc ?_) | ((with_reducible refine id_wE ?_); refine id_newS ?_; refine xStore ?_) | ((with_reducible refine id_asB ?_); first | refine xTt ?_ | refine xFf ?_))
      refine hr2.iadd hi (seL_at hf) fun p4 hp4 => ?_
      refine (hp4 H3 [] Keeps.refl (by simp)).fadd (i := 0) (m := 2) (ds := [iv f.node, iv f.life]) rfl (by omega) fun p5 hp5 => ?_
      refine hp5.fadd (i := 0) (m := 1) (ds := [iv f.node]) rfl (by omega) fun p6 hp6 => ?_
      refine hp6.load1 ?_
      repeat (first | with_reducible refine atK.mk ?_ | with_reducible refine wChk_nil ?_ | with_reducible refine wChk1_nil ?_ | ((with_reducible refine id_wP ?_); first | refine xAdd ?_ | refine xSub ?_ | refine xConv ?_ | refine xMul ?_ | refine wP_max ?_ | refine xIaN ?_ | refine xIaO ?_ | refine xIaU ?_ | refine xBuild ?_ | refine xPure ?_) | ((with_reducible refine id_wR ?_); refine id_new ?_; refine xRead ?_) | ((with_reducible refine id_wA ?_); first | refine xBsl ?_ | refine xAlloc ?_) | ((with_reducible refine id_wE ?_); refine id_newS ?_; refine xStore ?_) | ((with_reducible refine id_asB ?_); first | refine xTt ?_ | refine xFf ?_))
      refine asB_both (fun h => ?_) fun h => ?_
      · have he : g.node = f.node := by simpa using h
        repeat (first | with_reducible refine atK.mk ?_ | with_reducible refine wChk_nil ?_ | with_reducible refine wChk1_nil ?_ | ((with_reducible refine id_wP ?_); first | refine xAdd ?_ | refine xSub ?_ | refine xConv ?_ | refine xMul ?_ | refine wP_max ?_ | refine xIaN ?_ | refine xIaO ?_ | refine xIaU ?_ | refine xBuild ?_ | refine xPure ?_) | ((with_reducible refine id_wR ?_); refine id_new ?_; refine xRead ?_) | ((with_reducible refine id_wA ?_); first | refine xBsl ?_ | refine xAlloc ?_) | ((with_reducible refine id_wE ?_); refine id_newS ?_; refine xStore ?_) | ((with_reducible refine id_asB ?_); first | refine xTt ?_ | refine xFf ?_))
        show q16_5 (look tb) nvNone (kSeq K' (q16_1 (look tb) nvNone Q)) .ret (mkW [(2, .bool false)]) H3
        rw [x16_18_0]
        refine bad H3 k2 ?_
        have : ¬ (sl.map Se.node).Nodup := by
          intro hnd2
          have h1 : ((sl.take (k + 1)).map Se.node).Nodup := List.Sublist.nodup (List.Sublist.map _ (List.take_sublist _ _)) hnd2
          rw [htk, List.map_append, List.nodup_append] at h1
          refine h1.2.2 g.node (List.mem_map.2 ⟨g, ?_, rfl⟩) f.node (by simp) he
          refine List.mem_of_getElem? (i := j) ?_
          rw [List.getElem?_take, if_pos hj]
          exact hg
        simp [this]
      · have he : g.node ≠ f.node := by simpa using h
        repeat (first | with_reducible refine atK.mk ?_ | with_reducible refine wChk_nil ?_ | with_reducible refine wChk1_nil ?_ | ((with_reducible refine id_wP ?_); first | refine xAdd ?_ | refine xSub ?_ | refine xConv ?_ | refine xMul ?_ | refine wP_max ?_ | refine xIaN ?_ | refine xIaO ?_ | refine xIaU ?_ | refine xBuild ?_ | refine xPure ?_) | ((with_reducible refine id_wR ?_); refine id_new ?_; refine xRead ?_) | ((with_reducible refine id_wA ?_); first | refine xBsl ?_ | refine xAlloc ?_) | ((with_reducible refine id_wE ?_); refine id_newS ?_; refine xStore ?_) | ((with_reducible refine id_asB ?_); first | refine xTt ?_ | refine xFf ?_))
        refine hK2 _ H3 ⟨rfl, rfl, fun z hz => ?_⟩
        rw [htj] at hz
        rcases List.mem_append.1 hz with hz | hz
        · exact hne z hz
        · simp only [List.mem_singleton] at hz
          subst hz
          exact he
    · rintro wf H3 ⟨rfl, rfl, hne⟩ K2
      rw [l16_18]
      repeat (first | with_reducible refine atK.mk ?_ | with_reducible refine wChk_nil ?_ | with_reducible refine wChk1_nil ?_ | ((with_reducible refine id_wP ?_); first | refine xAdd ?_ | refine xSub ?_ | refine xConv ?_ | refine xMul ?_ | refine wP_max ?_ | refine xIaN ?_ | refine xIaO ?_ | refine xIaU ?_ | refine xBuild ?_ | refine xPure ?_) | ((with_reducible refine id_wR ?_); refine id_new ?_; refine xRead ?_) | ((with_reducible refine id_wA ?_); first | refine xBsl ?_ | refine xAlloc ?_) | ((with_reducible refine id_wE ?_); refine id_newS ?_; refine xStore ?_) | ((with_reducible refine id_asB ?_); first | refine xTt ?_ | refine xFf ?_))
      show q16_5 (look tb) nvNone (kSeq K' (q16_1 (look tb) nvNone Q)) (.exit 2) (mkW [(1, pt y), (3, iv k)]) H3
      rw [x16_18_1]
      refine atK.mk ?_
      rw [e16_28]
      repeat (first | with_reducible refine atK.mk ?_ | with_reducible refine wChk_nil ?_ | with_reducible refine wChk1_nil ?_ | ((with_reducible refine id_wP ?_); first | refine xAdd ?_ | refine xSub ?_ | refine xConv ?_ | refine xMul ?_ | refine wP_max ?_ | refine xIaN ?_ | refine xIaO ?_ | refine xIaU ?_ | refine xBuild ?_ | refine xPure ?_) | ((with_reducible refine id_wR ?_); refine id_new ?_; refine xRead ?_) | ((with_reducible refine id_wA ?_); first | refine xBsl ?_ | refine xAlloc ?_) | ((with_reducible refine id_wE ?_); refine id_newS ?_; refine xStore ?_) | ((with_reducible refine id_asB ?_); first | refine xTt ?_ | refine xFf ?_))
      refine hK' _ H3 ⟨rfl, hk2, ?_, ?_⟩
      · rw [htk, List.all_append, hok, Bool.true_and]
        simp only [List.all_cons, List.all_nil, Bool.and_true]
        exact hb
      · rw [htk, List.map_append, List.nodup_append]
        refine ⟨hnd, by simp, ?_⟩
        intro a ha c hc e
        simp only [List.map_cons, List.map_nil, List.mem_singleton] at hc
        subst hc
        obtain ⟨g, hg, rfl⟩ := List.mem_map.1 ha
        exact hne g hg e
  · rintro wf H' ⟨rfl, hk, hok, hnd⟩ K'
    have hy1 := hy.keep0 hk
    have hr1 := hr.keep hk (by simp)
    rw [List.take_length] at hok hnd
    rw [l16_7]
    repeat (first | with_reducible refine atK.mk ?_ | with_reducible refine wChk_nil ?_ | with_reducible refine wChk1_nil ?_ | ((with_reducible refine id_wP ?_); first | refine xAdd ?_ | refine xSub ?_ | refine xConv ?_ | refine xMul ?_ | refine wP_max ?_ | refine xIaN ?_ | refine xIaO ?_ | refine xIaU ?_ | refine xBuild ?_ | refine xPure ?_) | ((with_reducible refine id_wR ?_); refine id_new ?_; refine xRead ?_) | ((with_reducible refine id_wA ?_); first | refine xBsl ?_ | refine xAlloc ?_) | ((with_reducible refine id_wE ?_); refine id_newS ?_; refine xStore ?_) | ((with_reducible refine id_asB ?_); first | refine xTt ?_ | refine xFf ?_))
    refine hr1.lenS ?_
    repeat (first | with_reducible refine atK.mk ?_ | with_reducible refine wChk_nil ?_ | with_reducible refine wChk1_nil ?_ | ((with_reducible refine id_wP ?_); first | refine xAdd ?_ | refine xSub ?_ | refine xConv ?_ | refine xMul ?_ | refine wP_max ?_ | refine xIaN ?_ | refine xIaO ?_ | refine xIaU ?_ | refine xBuild ?_ | refine xPure ?_) | ((with_reducible refine id_wR ?_); refine id_new ?_; refine xRead ?_) | ((with_reducible refine id_wA ?_); first | refine xBsl ?_ | refine xAlloc ?_) | ((with_reducible refine id_wE ?_); refine id_newS ?_; refine xStore ?_) | ((with_reducible refine id_asB ?_); first | refine xTt ?_ | refine xFf ?_))
    show q16_1 (look tb) nvNone Q (.exit 0) (mkW []) H'
    rw [x16_7_1, e16_30]
    repeat (first | with_reducible refine atK.mk ?_ | with_reducible refine wChk_nil ?_ | with_reducible refine wChk1_nil ?_ | ((with_reducible refine id_wP ?_); first | refine xAdd ?_ | refine xSub ?_ | refine xConv ?_ | refine xMul ?_ | refine wP_max ?_ | refine xIaN ?_ | refine xIaO ?_ | refine xIaU ?_ | refine xBuild ?_ | refine xPure ?_) | ((with_reducible refine id_wR ?_); refine id_new ?_; refine xRead ?_) | ((with_reducible refine id_wA ?_); first | refine xBsl ?_ | refine xAlloc ?_) | ((with_reducible refine id_wE ?_); refine id_newS ?_; refine xStore ?_) | ((with_reducible refine id_asB ?_); first | refine xTt ?_ | refine xFf ?_))
    have := q H' hk
    rw [hok, decide_eq_true hnd] at this
    exact this

theorem s_right16 {H : Heap} {ep : Int} {chv : Value} {sl : List Se} {Q : Value → Heap → Prop} (hr : RSl 3 H chv sl.length (seL sl)) (q : ∀ H', Keeps H H' [] → Q (.bool (rightB ep sl)) H') : EvC 16 [.agg ⟨[iv ep, chv]⟩] H Q := by
  have ho := hr.isOne
  have kk : Keeps H (H.push (.row [iv ep, chv] 0)) [] := by exact kp
  have hr0 := hr.keep kk (by simp)
  refine Ev.fn (d := k16) rfl (Nat.le_of_ble_eq_true rfl) ?_
  rw [e16]
  have no : rightB ep sl = false → Q (.bool false) (H.push (.row [iv ep, chv] 0)) := fun e => by
    have := q _ kk
    rw [e] at this
    exact this
  repeat (first | with_reducible refine atK.mk ?_ | with_reducible refine wChk_nil ?_ | with_reducible refine wChk1_nil ?_ | ((with_reducible refine id_wP ?_); first | refine xAdd ?_ | refine xSub ?_ | refine xConv ?_ | refine xMul ?_ | refine wP_max ?_ | refine xIaN ?_ | refine xIaO ?_ | refine xIaU ?_ | refine xBuild ?_ | refine xPure ?_) | ((with_reducible refine id_wR ?_); refine id_new ?_; refine xRead ?_) | ((with_reducible refine id_wA ?_); first | refine xBsl ?_ | refine xAlloc ?_) | ((with_reducible refine id_wE ?_); refine id_newS ?_; refine xStore ?_) | ((with_reducible refine id_asB ?_); first | refine xTt ?_ | refine xFf ?_))
  refine asB_both (fun h => ?_) fun h => ?_
  · have h1 : ¬ 1 ≤ ep := by simpa using h
    repeat (first | with_reducible refine atK.mk ?_ | with_reducible refine wChk_nil ?_ | with_reducible refine wChk1_nil ?_ | ((with_reducible refine id_wP ?_); first | refine xAdd ?_ | refine xSub ?_ | refine xConv ?_ | refine xMul ?_ | refine wP_max ?_ | refine xIaN ?_ | refine xIaO ?_ | refine xIaU ?_ | refine xBuild ?_ | refine xPure ?_) | ((with_reducible refine id_wR ?_); refine id_new ?_; refine xRead ?_) | ((with_reducible refine id_wA ?_); first | refine xBsl ?_ | refine xAlloc ?_) | ((with_reducible refine id_wE ?_); refine id_newS ?_; refine xStore ?_) | ((with_reducible refine id_asB ?_); first | refine xTt ?_ | refine xFf ?_))
    exact no (by simp [rightB, h1])
  have h1 : 1 ≤ ep := by simpa using h
  repeat (first | with_reducible refine atK.mk ?_ | with_reducible refine wChk_nil ?_ | with_reducible refine wChk1_nil ?_ | ((with_reducible refine id_wP ?_); first | refine xAdd ?_ | refine xSub ?_ | refine xConv ?_ | refine xMul ?_ | refine wP_max ?_ | refine xIaN ?_ | refine xIaO ?_ | refine xIaU ?_ | refine xBuild ?_ | refine xPure ?_) | ((with_reducible refine id_wR ?_); refine id_new ?_; refine xRead ?_) | ((with_reducible refine id_wA ?_); first | refine xBsl ?_ | refine xAlloc ?_) | ((with_reducible refine id_wE ?_); refine id_newS ?_; refine xStore ?_) | ((with_reducible refine id_asB ?_); first | refine xTt ?_ | refine xFf ?_))
  refine asB_both (fun h => ?_) fun h => ?_
  · have h2 : ¬ ep ≤ 1099511627776 := by simpa using h
    repeat (first | with_reducible refine atK.mk ?_ | with_reducible refine wChk_nil ?_ | with_reducible refine wChk1_nil ?_ | ((with_reducible refine id_wP ?_); first | refine xAdd ?_ | refine xSub ?_ | refine xConv ?_ | refine xMul ?_ | refine wP_max ?_ | refine xIaN ?_ | refine xIaO ?_ | refine xIaU ?_ | refine xBuild ?_ | refine xPure ?_) | ((with_reducible refine id_wR ?_); refine id_new ?_; refine xRead ?_) | ((with_reducible refine id_wA ?_); first | refine xBsl ?_ | refine xAlloc ?_) | ((with_reducible refine id_wE ?_); refine id_newS ?_; refine xStore ?_) | ((with_reducible refine id_asB ?_); first | refine xTt ?_ | refine xFf ?_))
    exact no (by simp [rightB, h2])
  have h2 : ep ≤ 1099511627776 := by simpa using h
  repeat (first | with_reducible refine atK.mk ?_ | with_reducible refine wChk_nil ?_ | with_reducible refine wChk1_nil ?_ | ((with_reducible refine id_wP ?_); first | refine xAdd ?_ | refine xSub ?_ | refine xConv ?_ | refine xMul ?_ | refine wP_max ?_ | refine xIaN ?_ | refine xIaO ?_ | refine xIaU ?_ | refine xBuild ?_ | refine xPure ?_) | ((with_reducible refine id_wR ?_); refine id_new ?_; refine xRead ?_) | ((with_reducible refine id_wA ?_); first | refine xBsl ?_ | refine xAlloc ?_) | ((with_reducible refine id_wE ?_); refine id_newS ?_; refine xStore ?_) | ((with_reducible refine id_asB ?_); first | refine xTt ?_ | refine xFf ?_))
  refine hr.lenS ?_
  repeat (first | with_reducible refine atK.mk ?_ | with_reducible refine wChk_nil ?_ | with_reducible refine wChk1_nil ?_ | ((with_reducible refine id_wP ?_); first | refine xAdd ?_ | refine xSub ?_ | refine xConv ?_ | refine xMul ?_ | refine wP_max ?_ | refine xIaN ?_ | refine xIaO ?_ | refine xIaU ?_ | refine xBuild ?_ | refine xPure ?_) | ((with_reducible refine id_wR ?_); refine id_new ?_; refine xRead ?_) | ((with_reducible refine id_wA ?_); first | refine xBsl ?_ | refine xAlloc ?_) | ((with_reducible refine id_wE ?_); refine id_newS ?_; refine xStore ?_) | ((with_reducible refine id_asB ?_); first | refine xTt ?_ | refine xFf ?_))
  refine asB_both (fun h => ?_) fun h => ?_
  · have h3 : ¬ 1 ≤ sl.length := by
      have h' : (sl.length : Int) < 1 := by simpa using h
      omega
    repeat (first | with_reducible refine atK.mk ?_ | with_reducible refine wChk_nil ?_ | with_reducible refine wChk1_nil ?_ | ((with_reducible refine id_wP ?_); first | refine xAdd ?_ | refine xSub ?_ | refine xConv ?_ | refine xMul ?_ | refine wP_max ?_ | refine xIaN ?_ | refine xIaO ?_ | refine xIaU ?_ | refine xBuild ?_ | refine xPure ?_) | ((with_reducible refine id_wR ?_); refine id_new ?_; refine xRead ?_) | ((with_reducible refine id_wA ?_); first | refine xBsl ?_ | refine xAlloc ?_) | ((with_reducible refine id_wE ?_); refine id_newS ?_; refine xStore ?_) | ((with_reducible refine id_asB ?_); first | refine xTt ?_ | refine xFf ?_))
    exact no (by simp [rightB, h3])
  have h3 : 1 ≤ sl.length := by
    have h' : ¬ (sl.length : Int) < 1 := by simpa using h
    omega
  repeat (first | with_reducible refine atK.mk ?_ | with_reducible refine wChk_nil ?_ | with_reducible refine wChk1_nil ?_ | ((with_reducible refine id_wP ?_); first | refine xAdd ?_ | refine xSub ?_ | refine xConv ?_ | refine xMul ?_ | refine wP_max ?_ | refine xIaN ?_ | refine xIaO ?_ | refine xIaU ?_ | refine xBuild ?_ | refine xPure ?_) | ((with_reducible refine id_wR ?_); refine id_new ?_; refine xRead ?_) | ((with_reducible refine id_wA ?_); first | refine xBsl ?_ | refine xAlloc ?_) | ((with_reducible refine id_wE ?_); refine id_newS ?_; refine xStore ?_) | ((with_reducible refine id_asB ?_); first | refine xTt ?_ | refine xFf ?_))
  refine hr.lenS ?_
  repeat (first | with_reducible refine atK.mk ?_ | with_reducible refine wChk_nil ?_ | with_reducible refine wChk1_nil ?_ | ((with_reducible refine id_wP ?_); first | refine xAdd ?_ | refine xSub ?_ | refine xConv ?_ | refine xMul ?_ | refine wP_max ?_ | refine xIaN ?_ | refine xIaO ?_ | refine xIaU ?_ | refine xBuild ?_ | refine xPure ?_) | ((with_reducible refine id_wR ?_); refine id_new ?_; refine xRead ?_) | ((with_reducible refine id_wA ?_); first | refine xBsl ?_ | refine xAlloc ?_) | ((with_reducible refine id_wE ?_); refine id_newS ?_; refine xStore ?_) | ((with_reducible refine id_asB ?_); first | refine xTt ?_ | refine xFf ?_))
  refine asB_both (fun h => ?_) fun h => ?_
  · have h4 : ¬ sl.length ≤ 8 := by
      have h' : (sl.length : Int) > 8 := by simpa using h
      omega
    repeat (first | with_reducible refine atK.mk ?_ | with_reducible refine wChk_nil ?_ | with_reducible refine wChk1_nil ?_ | ((with_reducible refine id_wP ?_); first | refine xAdd ?_ | refine xSub ?_ | refine xConv ?_ | refine xMul ?_ | refine wP_max ?_ | refine xIaN ?_ | refine xIaO ?_ | refine xIaU ?_ | refine xBuild ?_ | refine xPure ?_) | ((with_reducible refine id_wR ?_); refine id_new ?_; refine xRead ?_) | ((with_reducible refine id_wA ?_); first | refine xBsl ?_ | refine xAlloc ?_) | ((with_reducible refine id_wE ?_); refine id_newS ?_; refine xStore ?_) | ((with_reducible refine id_asB ?_); first | refine xTt ?_ | refine xFf ?_))
    exact no (by simp [rightB, h4])
  have h4 : sl.length ≤ 8 := by
    have h' : ¬ (sl.length : Int) > 8 := by simpa using h
    omega
  repeat (first | with_reducible refine atK.mk ?_ | with_reducible refine wChk_nil ?_ | with_reducible refine wChk1_nil ?_ | ((with_reducible refine id_wP ?_); first | refine xAdd ?_ | refine xSub ?_ | refine xConv ?_ | refine xMul ?_ | refine wP_max ?_ | refine xIaN ?_ | refine xIaO ?_ | refine xIaU ?_ | refine xBuild ?_ | refine xPure ?_) | ((with_reducible refine id_wR ?_); refine id_new ?_; refine xRead ?_) | ((with_reducible refine id_wA ?_); first | refine xBsl ?_ | refine xAlloc ?_) | ((with_reducible refine id_wE ?_); refine id_newS ?_; refine xStore ?_) | ((with_reducible refine id_asB ?_); first | refine xTt ?_ | refine xFf ?_))
  cases sl with
  | nil => simp at h3
  | cons f r =>
    refine hr0.iadd (i := 0) (by simp) (seL_at (f := f) rfl) fun p hp => ?_
    refine (hp _ [] Keeps.refl (by simp)).cell (i := 2) (v := .bool f.syn) rfl ?_
    repeat (first | with_reducible refine atK.mk ?_ | with_reducible refine wChk_nil ?_ | with_reducible refine wChk1_nil ?_ | ((with_reducible refine id_wP ?_); first | refine xAdd ?_ | refine xSub ?_ | refine xConv ?_ | refine xMul ?_ | refine wP_max ?_ | refine xIaN ?_ | refine xIaO ?_ | refine xIaU ?_ | refine xBuild ?_ | refine xPure ?_) | ((with_reducible refine id_wR ?_); refine id_new ?_; refine xRead ?_) | ((with_reducible refine id_wA ?_); first | refine xBsl ?_ | refine xAlloc ?_) | ((with_reducible refine id_wE ?_); refine id_newS ?_; refine xStore ?_) | ((with_reducible refine id_asB ?_); first | refine xTt ?_ | refine xFf ?_))
    refine asB_both (fun h => ?_) fun h => ?_
    · have h5 : f.syn = false := by simpa using h
      repeat (first | with_reducible refine atK.mk ?_ | with_reducible refine wChk_nil ?_ | with_reducible refine wChk1_nil ?_ | ((with_reducible refine id_wP ?_); first | refine xAdd ?_ | refine xSub ?_ | refine xConv ?_ | refine xMul ?_ | refine wP_max ?_ | refine xIaN ?_ | refine xIaO ?_ | refine xIaU ?_ | refine xBuild ?_ | refine xPure ?_) | ((with_reducible refine id_wR ?_); refine id_new ?_; refine xRead ?_) | ((with_reducible refine id_wA ?_); first | refine xBsl ?_ | refine xAlloc ?_) | ((with_reducible refine id_wE ?_); refine id_newS ?_; refine xStore ?_) | ((with_reducible refine id_asB ?_); first | refine xTt ?_ | refine xFf ?_))
      exact no (by simp [rightB, h5])
    have h5 : f.syn = true := by simpa using h
    repeat (first | with_reducible refine atK.mk ?_ | with_reducible refine wChk_nil ?_ | with_reducible refine wChk1_nil ?_ | ((with_reducible refine id_wP ?_); first | refine xAdd ?_ | refine xSub ?_ | refine xConv ?_ | refine xMul ?_ | refine wP_max ?_ | refine xIaN ?_ | refine xIaO ?_ | refine xIaU ?_ | refine xBuild ?_ | refine xPure ?_) | ((with_reducible refine id_wR ?_); refine id_new ?_; refine xRead ?_) | ((with_reducible refine id_wA ?_); first | refine xBsl ?_ | refine xAlloc ?_) | ((with_reducible refine id_wE ?_); refine id_newS ?_; refine xStore ?_) | ((with_reducible refine id_asB ?_); first | refine xTt ?_ | refine xFf ?_))
    refine right_loop16 (y := H.next) h4 (by exact atp) hr0 fun H' k' => ?_
    have := q H' (kk.comp0 k')
    simp only [rightB, h1, h2, h3, h4, h5, decide_true, Bool.true_and] at this
    exact this

/-- The chain that a client tells. -/
theorem s_config {H : Heap} {x e : Nat} {ep : Int} {c0 c1 c2 chv c5 c6 c7 c8 : Value} {sl : List Se} {Q : Value → Heap → Prop} (hx : At H x (.row [c0, c1, c2, iv ep, chv, c5, c6, c7, c8] e)) (hr : RSl 3 H chv sl.length (seL sl)) (hlen : sl.length ≤ 1000000)
    (q : ∀ H' v', Keeps H H' [] → RSl 3 H' v' sl.length (seL sl) → Q (.agg ⟨[iv ep, v']⟩) H') : EvC 19 [pt x] H Q := by
  have hxl := hx.lt
  refine Ev.fn (d := k19) rfl (Nat.le_of_ble_eq_true rfl) ?_
  rw [e19]
  repeat (first | with_reducible refine atK.mk ?_ | with_reducible refine wChk_nil ?_ | with_reducible refine wChk1_nil ?_ | ((with_reducible refine id_wP ?_); first | refine xAdd ?_ | refine xSub ?_ | refine xConv ?_ | refine xMul ?_ | refine wP_max ?_ | refine xIaN ?_ | refine xIaO ?_ | refine xIaU ?_ | refine xBuild ?_ | refine xPure ?_) | ((with_reducible refine id_wR ?_); refine id_new ?_; refine xRead ?_) | ((with_reducible refine id_wA ?_); first | refine xBsl ?_ | refine xAlloc ?_) | ((with_reducible refine id_wE ?_); refine id_newS ?_; refine xStore ?_) | ((with_reducible refine id_asB ?_); first | refine xTt ?_ | refine xFf ?_))
  have hr1 := hr.keep (H' := H.push (.row [iv 0, .slice none 0 0] 0)) (M := []) (by exact kp) (by simp)
  refine s_clone3 hr1 hlen fun H2 v' k2 hv' hge => ?_
  have hx2 : At H2 x _ := At.keep0 (H := H.push _) (by exact atp) k2
  have hz2 := (At.new (H := H) (X := .row [iv 0, .slice none 0 0] 0)).keep0 k2
  have hxl2 := hx2.lt
  have hzl2 := hz2.lt
  have ho' := hv'.isOne
  have hzx : x ≠ H.next := by omega
  have e1 : vcells (iv ep) = some [iv ep] := rfl
  have hn2 := k2.next
  have hzv : H.next ∉ newOf v' := fun hb => by have := hge _ hb; simp only [next_push] at this; omega
  refine wP_build (l := [iv ep, v']) (by simp only [fillD, vcells_one ho', e1, splice, List.drop_succ_cons, List.drop_zero, List.drop_nil, List.length_cons, List.length_nil, List.cons_append, List.nil_append, Nat.reduceAdd, Nat.reduceLeDiff, Nat.le_refl, ↓reduceIte]) ?_
  have ho2 : [iv ep, v'].all oneC = true := by
    rw [List.all_cons, List.all_cons, ho']
    rfl
  repeat (first | with_reducible refine atK.mk ?_ | with_reducible refine wChk_nil ?_ | with_reducible refine wChk1_nil ?_ | ((with_reducible refine id_wP ?_); first | refine xAdd ?_ | refine xSub ?_ | refine xConv ?_ | refine xMul ?_ | refine wP_max ?_ | refine xIaN ?_ | refine xIaO ?_ | refine xIaU ?_ | refine xBuild ?_ | refine xPure ?_) | ((with_reducible refine id_wR ?_); refine id_new ?_; refine xRead ?_) | ((with_reducible refine id_wA ?_); first | refine xBsl ?_ | refine xAlloc ?_) | ((with_reducible refine id_wE ?_); refine id_newS ?_; refine xStore ?_) | ((with_reducible refine id_asB ?_); first | refine xTt ?_ | refine xFf ?_))
  refine ⟨⟨?_, by simp [veq, veq1]⟩, ?_⟩
  · simp only [readSem, aadd, Heap.cells, hx2.get]
    rfl
  repeat (first | with_reducible refine atK.mk ?_ | with_reducible refine wChk_nil ?_ | with_reducible refine wChk1_nil ?_ | ((with_reducible refine id_wP ?_); first | refine xAdd ?_ | refine xSub ?_ | refine xConv ?_ | refine xMul ?_ | refine wP_max ?_ | refine xIaN ?_ | refine xIaO ?_ | refine xIaU ?_ | refine xBuild ?_ | refine xPure ?_) | ((with_reducible refine id_wR ?_); refine id_new ?_; refine xRead ?_) | ((with_reducible refine id_wA ?_); first | refine xBsl ?_ | refine xAlloc ?_) | ((with_reducible refine id_wE ?_); refine id_newS ?_; refine xStore ?_) | ((with_reducible refine id_asB ?_); first | refine xTt ?_ | refine xFf ?_))
  have kk : Keeps H (H2.set H.next (.row [iv ep, v'] 0)) [] := Keeps.set' ((Keeps.push' Keeps.refl').comp0 k2) (.inr (Nat.le_refl _))
  exact q _ v' kk (hv'.keep (M := [H.next]) (by exact kp) (fun b h1 h2 => hzv (by simp only [List.mem_singleton] at h2; subst h2; exact h1)))

abbrev fr18 (y z : Nat) (i : Int) : WFr := mkW [(2, pt y), (3, pt z), (5, iv i)]

theorem eqSe (f : Se) : eqCells [.i, .i, .b] f.c f.c = some true := by
  simp [Se.c, eqCells, eq1]

theorem s_same {H : Heap} {ep : Int} {v w : Value} {sl : List Se} {Q : Value → Heap → Prop} (hv : RSl 3 H v sl.length (seL sl)) (hw : RSl 3 H w sl.length (seL sl)) (hlen : sl.length ≤ 1000000)
    (q : ∀ H', Keeps H H' [] → Q (.bool true) H') : EvC 18 [.agg ⟨[iv ep, v]⟩, .agg ⟨[iv ep, w]⟩] H Q := by
  refine Ev.fn (d := k18) rfl (Nat.le_of_ble_eq_true rfl) ?_
  rw [e18]
  have kk : Keeps H ((H.push (.row [iv ep, v] 0)).push (.row [iv ep, w] 0)) [] := by exact kp
  have hv1 := hv.keep kk (by simp)
  have hw1 := hw.keep kk (by simp)
  repeat (first | with_reducible refine atK.mk ?_ | with_reducible refine wChk_nil ?_ | with_reducible refine wChk1_nil ?_ | ((with_reducible refine id_wP ?_); first | refine xAdd ?_ | refine xSub ?_ | refine xConv ?_ | refine xMul ?_ | refine wP_max ?_ | refine xIaN ?_ | refine xIaO ?_ | refine xIaU ?_ | refine xBuild ?_ | refine xPure ?_) | ((with_reducible refine id_wR ?_); refine id_new ?_; refine xRead ?_) | ((with_reducible refine id_wA ?_); first | refine xBsl ?_ | refine xAlloc ?_) | ((with_reducible refine id_wE ?_); refine id_newS ?_; refine xStore ?_) | ((with_reducible refine id_asB ?_); first | refine xTt ?_ | refine xFf ?_))
  refine asB_ff (by simp) ?_
  repeat (first | with_reducible refine atK.mk ?_ | with_reducible refine wChk_nil ?_ | with_reducible refine wChk1_nil ?_ | ((with_reducible refine id_wP ?_); first | refine xAdd ?_ | refine xSub ?_ | refine xConv ?_ | refine xMul ?_ | refine wP_max ?_ | refine xIaN ?_ | refine xIaO ?_ | refine xIaU ?_ | refine xBuild ?_ | refine xPure ?_) | ((with_reducible refine id_wR ?_); refine id_new ?_; refine xRead ?_) | ((with_reducible refine id_wA ?_); first | refine xBsl ?_ | refine xAlloc ?_) | ((with_reducible refine id_wE ?_); refine id_newS ?_; refine xStore ?_) | ((with_reducible refine id_asB ?_); first | refine xTt ?_ | refine xFf ?_))
  refine hv1.lenS ?_
  repeat (first | with_reducible refine atK.mk ?_ | with_reducible refine wChk_nil ?_ | with_reducible refine wChk1_nil ?_ | ((with_reducible refine id_wP ?_); first | refine xAdd ?_ | refine xSub ?_ | refine xConv ?_ | refine xMul ?_ | refine wP_max ?_ | refine xIaN ?_ | refine xIaO ?_ | refine xIaU ?_ | refine xBuild ?_ | refine xPure ?_) | ((with_reducible refine id_wR ?_); refine id_new ?_; refine xRead ?_) | ((with_reducible refine id_wA ?_); first | refine xBsl ?_ | refine xAlloc ?_) | ((with_reducible refine id_wE ?_); refine id_newS ?_; refine xStore ?_) | ((with_reducible refine id_asB ?_); first | refine xTt ?_ | refine xFf ?_))
  refine hw1.lenS ?_
  repeat (first | with_reducible refine atK.mk ?_ | with_reducible refine wChk_nil ?_ | with_reducible refine wChk1_nil ?_ | ((with_reducible refine id_wP ?_); first | refine xAdd ?_ | refine xSub ?_ | refine xConv ?_ | refine xMul ?_ | refine wP_max ?_ | refine xIaN ?_ | refine xIaO ?_ | refine xIaU ?_ | refine xBuild ?_ | refine xPure ?_) | ((with_reducible refine id_wR ?_); refine id_new ?_; refine xRead ?_) | ((with_reducible refine id_wA ?_); first | refine xBsl ?_ | refine xAlloc ?_) | ((with_reducible refine id_wE ?_); refine id_newS ?_; refine xStore ?_) | ((with_reducible refine id_asB ?_); first | refine xTt ?_ | refine xFf ?_))
  refine asB_ff (by simp) ?_
  repeat (first | with_reducible refine atK.mk ?_ | with_reducible refine wChk_nil ?_ | with_reducible refine wChk1_nil ?_ | ((with_reducible refine id_wP ?_); first | refine xAdd ?_ | refine xSub ?_ | refine xConv ?_ | refine xMul ?_ | refine wP_max ?_ | refine xIaN ?_ | refine xIaO ?_ | refine xIaU ?_ | refine xBuild ?_ | refine xPure ?_) | ((with_reducible refine id_wR ?_); refine id_new ?_; refine xRead ?_) | ((with_reducible refine id_wA ?_); first | refine xBsl ?_ | refine xAlloc ?_) | ((with_reducible refine id_wE ?_); refine id_newS ?_; refine xStore ?_) | ((with_reducible refine id_asB ?_); first | refine xTt ?_ | refine xFf ?_))
  have hy : At ((H.push (.row [iv ep, v] 0)).push (.row [iv ep, w] 0)) H.next (.row [iv ep, v] 0) := by exact atp
  have hz : At ((H.push (.row [iv ep, v] 0)).push (.row [iv ep, w] 0)) (H.next + 1) (.row [iv ep, w] 0) := by exact atp
  refine wLoop_range sl.length (fun k wf H' => wf = fr18 H.next (H.next + 1) k ∧ H' = ((H.push (.row [iv ep, v] 0)).push (.row [iv ep, w] 0))) ?_ ?_ ⟨rfl, rfl⟩
  · rintro k wf H' hi ⟨rfl, rfl⟩ K' hK'
    obtain ⟨f, hf⟩ : ∃ f, sl[k]? = some f := ⟨_, List.getElem?_eq_getElem hi⟩
    rw [l18_7]
    repeat (first | with_reducible refine atK.mk ?_ | with_reducible refine wChk_nil ?_ | with_reducible refine wChk1_nil ?_ | ((with_reducible refine id_wP ?_); first | refine xAdd ?_ | refine xSub ?_ | refine xConv ?_ | refine xMul ?_ | refine wP_max ?_ | refine xIaN ?_ | refine xIaO ?_ | refine xIaU ?_ | refine xBuild ?_ | refine xPure ?_) | ((with_reducible refine id_wR ?_); refine id_new ?_; refine xRead ?_) | ((with_reducible refine id_wA ?_); first | refine xBsl ?_ | refine xAlloc ?_) | ((with_reducible refine id_wE ?_); refine id_newS ?_; refine xStore ?_) | ((with_reducible refine id_asB ?_); first | refine xTt ?_ | refine xFf ?_))
    refine hv1.lenS ?_
    repeat (first | with_reducible refine atK.mk ?_ | with_reducible refine wChk_nil ?_ | with_reducible refine wChk1_nil ?_ | ((with_reducible refine id_wP ?_); first | refine xAdd ?_ | refine xSub ?_ | refine xConv ?_ | refine xMul ?_ | refine wP_max ?_ | refine xIaN ?_ | refine xIaO ?_ | refine xIaU ?_ | refine xBuild ?_ | refine xPure ?_) | ((with_reducible refine id_wR ?_); refine id_new ?_; refine xRead ?_) | ((with_reducible refine id_wA ?_); first | refine xBsl ?_ | refine xAlloc ?_) | ((with_reducible refine id_wE ?_); refine id_newS ?_; refine xStore ?_) | ((with_reducible refine id_asB ?_); first | refine xTt ?_ | refine xFf ?_))
    refine hv1.iadd hi (seL_at hf) fun p hp => ?_
    refine (hp _ [] Keeps.refl (by simp)).load ?_
    repeat (first | with_reducible refine atK.mk ?_ | with_reducible refine wChk_nil ?_ | with_reducible refine wChk1_nil ?_ | ((with_reducible refine id_wP ?_); first | refine xAdd ?_ | refine xSub ?_ | refine xConv ?_ | refine xMul ?_ | refine wP_max ?_ | refine xIaN ?_ | refine xIaO ?_ | refine xIaU ?_ | refine xBuild ?_ | refine xPure ?_) | ((with_reducible refine id_wR ?_); refine id_new ?_; refine xRead ?_) | ((with_reducible refine id_wA ?_); first | refine xBsl ?_ | refine xAlloc ?_) | ((with_reducible refine id_wE ?_); refine id_newS ?_; refine xStore ?_) | ((with_reducible refine id_asB ?_); first | refine xTt ?_ | refine xFf ?_))
    refine hw1.iadd hi (seL_at hf) fun p2 hp2 => ?_
    refine (hp2 _ [] Keeps.refl (by simp)).load ?_
    refine wP_aggEq (r := true) rfl rfl (eqSe f) ?_
    repeat (first | with_reducible refine atK.mk ?_ | with_reducible refine wChk_nil ?_ | with_reducible refine wChk1_nil ?_ | ((with_reducible refine id_wP ?_); first | refine xAdd ?_ | refine xSub ?_ | refine xConv ?_ | refine xMul ?_ | refine wP_max ?_ | refine xIaN ?_ | refine xIaO ?_ | refine xIaU ?_ | refine xBuild ?_ | refine xPure ?_) | ((with_reducible refine id_wR ?_); refine id_new ?_; refine xRead ?_) | ((with_reducible refine id_wA ?_); first | refine xBsl ?_ | refine xAlloc ?_) | ((with_reducible refine id_wE ?_); refine id_newS ?_; refine xStore ?_) | ((with_reducible refine id_asB ?_); first | refine xTt ?_ | refine xFf ?_))
    exact hK' _ _ ⟨rfl, rfl⟩
  · rintro wf H' ⟨rfl, rfl⟩ K'
    rw [l18_7]
    repeat (first | with_reducible refine atK.mk ?_ | with_reducible refine wChk_nil ?_ | with_reducible refine wChk1_nil ?_ | ((with_reducible refine id_wP ?_); first | refine xAdd ?_ | refine xSub ?_ | refine xConv ?_ | refine xMul ?_ | refine wP_max ?_ | refine xIaN ?_ | refine xIaO ?_ | refine xIaU ?_ | refine xBuild ?_ | refine xPure ?_) | ((with_reducible refine id_wR ?_); refine id_new ?_; refine xRead ?_) | ((with_reducible refine id_wA ?_); first | refine xBsl ?_ | refine xAlloc ?_) | ((with_reducible refine id_wE ?_); refine id_newS ?_; refine xStore ?_) | ((with_reducible refine id_asB ?_); first | refine xTt ?_ | refine xFf ?_))
    refine hv1.lenS ?_
    repeat (first | with_reducible refine atK.mk ?_ | with_reducible refine wChk_nil ?_ | with_reducible refine wChk1_nil ?_ | ((with_reducible refine id_wP ?_); first | refine xAdd ?_ | refine xSub ?_ | refine xConv ?_ | refine xMul ?_ | refine wP_max ?_ | refine xIaN ?_ | refine xIaO ?_ | refine xIaU ?_ | refine xBuild ?_ | refine xPure ?_) | ((with_reducible refine id_wR ?_); refine id_new ?_; refine xRead ?_) | ((with_reducible refine id_wA ?_); first | refine xBsl ?_ | refine xAlloc ?_) | ((with_reducible refine id_wE ?_); refine id_newS ?_; refine xStore ?_) | ((with_reducible refine id_asB ?_); first | refine xTt ?_ | refine xFf ?_))
    show q18_1 (look tb) nvNone Q (.exit 0) (mkW []) _
    rw [x18_7_1, e18_17]
    repeat (first | with_reducible refine atK.mk ?_ | with_reducible refine wChk_nil ?_ | with_reducible refine wChk1_nil ?_ | ((with_reducible refine id_wP ?_); first | refine xAdd ?_ | refine xSub ?_ | refine xConv ?_ | refine xMul ?_ | refine wP_max ?_ | refine xIaN ?_ | refine xIaO ?_ | refine xIaU ?_ | refine xBuild ?_ | refine xPure ?_) | ((with_reducible refine id_wR ?_); refine id_new ?_; refine xRead ?_) | ((with_reducible refine id_wA ?_); first | refine xBsl ?_ | refine xAlloc ?_) | ((with_reducible refine id_wE ?_); refine id_newS ?_; refine xStore ?_) | ((with_reducible refine id_asB ?_); first | refine xTt ?_ | refine xFf ?_))
    exact q _ kk

end Go.Proofs.Ytfflfehfjgkcdaa.D
