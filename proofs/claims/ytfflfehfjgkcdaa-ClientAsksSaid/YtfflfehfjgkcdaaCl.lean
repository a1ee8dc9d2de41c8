/- The client's functions: chains. No statement of the seat is proved in this text. -/
import Derived.Test.YtfflfehfjgkcdaaCh
set_option linter.unusedSimpArgs false
set_option linter.unusedVariables false
set_option maxRecDepth 100000
namespace Go.Proofs.Ytfflfehfjgkcdaa.D
open Go

/-- A seat. -/
structure Se where
  node : Int
  life : Int
  syn : Bool
  deriving DecidableEq

def Se.c (f : Se) : List Value := [iv f.node, iv f.life, .bool f.syn]
theorem Se.len (f : Se) : f.c.length = 3 := rfl
abbrev seL (l : List Se) : List Value := l.flatMap Se.c
theorem seL_at {l : List Se} {i : Nat} {f : Se} (h : l[i]? = some f) : takeN ((seL l).drop (i * 3)) 3 = some f.c := takeN_flat Se.len h

abbrev seSh : List Sh := [.i .i64, .i .i64, .b]
theorem seSh_ok {B : Nat → Nat → Option Value} {cs : List Value} (h : ShsOk B seSh cs) : ∃ f : Se, cs = f.c ∧ True := by
  obtain ⟨v0, r, rfl, h0, h⟩ := h.cons
  obtain ⟨v1, r, rfl, h1, h⟩ := h.cons
  obtain ⟨v2, r, rfl, h2, h⟩ := h.cons
  obtain rfl := h.nil
  obtain ⟨n0, rfl, _⟩ := h0.int
  obtain ⟨n1, rfl, _⟩ := h1.int
  obtain ⟨n2, rfl⟩ := h2.bool
  exact ⟨⟨n0, n1, n2⟩, rfl, trivial⟩

def Se.ok (f : Se) : Bool := decide (0 ≤ f.node) && decide (f.node < 8) && decide (1 ≤ f.life) && decide (f.life ≤ 1099511627776)

/-- May a chain be? -/
def rightB (ep : Int) (sl : List Se) : Bool :=
  decide (1 ≤ ep) && decide (ep ≤ 1099511627776) && decide (1 ≤ sl.length) && decide (sl.length ≤ 8) && (match sl with | f :: _ => f.syn | [] => false) && sl.all Se.ok && decide (sl.map Se.node).Nodup

theorem s_may {H : Heap} {node life : Int} {Q : Value → Heap → Prop} (q : ∀ H', Keeps H H' [] → Q (.bool (Se.ok ⟨node, life, true⟩)) H') : EvC 33 [.agg ⟨[iv node, iv life]⟩] H Q := by
  refine Ev.fn (d := k33) rfl (Nat.le_of_ble_eq_true rfl) ?_
  rw [e33]
  repeat (first | with_reducible refine atK.mk ?_ | with_reducible refine wChk_nil ?_ | with_reducible refine wChk1_nil ?_ | ((with_reducible refine id_wP ?_); first | refine xAdd ?_ | refine xSub ?_ | refine xConv ?_ | refine xMul ?_ | refine wP_max ?_ | refine xIaN ?_ | refine xIaO ?_ | refine xIaU ?_ | refine xBuild ?_ | refine xPure ?_) | ((with_reducible refine id_wR ?_); refine id_new ?_; refine xRead ?_) | ((with_reducible refine id_wA ?_); first | refine xBsl ?_ | refine xAlloc ?_) | ((with_reducible refine id_wE ?_); refine id_newS ?_; refine xStore ?_) | ((with_reducible refine id_asB ?_); first | refine xTt ?_ | refine xFf ?_))
  refine asB_both (fun h => ?_) fun h => ?_
  · have h1 : 0 ≤ node := by simpa using h
    repeat (first | with_reducible refine atK.mk ?_ | with_reducible refine wChk_nil ?_ | with_reducible refine wChk1_nil ?_ | ((with_reducible refine id_wP ?_); first | refine xAdd ?_ | refine xSub ?_ | refine xConv ?_ | refine xMul ?_ | refine wP_max ?_ | refine xIaN ?_ | refine xIaO ?_ | refine xIaU ?_ | refine xBuild ?_ | refine xPure ?_) | ((with_reducible refine id_wR ?_); refine id_new ?_; refine xRead ?_) | ((with_reducible refine id_wA ?_); first | refine xBsl ?_ | refine xAlloc ?_) | ((with_reducible refine id_wE ?_); refine id_newS ?_; refine xStore ?_) | ((with_reducible refine id_asB ?_); first | refine xTt ?_ | refine xFf ?_))
    refine asB_both (fun h => ?_) fun h => ?_
    · have h2 : node < 8 := by simpa using h
      repeat (first | with_reducible refine atK.mk ?_ | with_reducible refine wChk_nil ?_ | with_reducible refine wChk1_nil ?_ | ((with_reducible refine id_wP ?_); first | refine xAdd ?_ | refine xSub ?_ | refine xConv ?_ | refine xMul ?_ | refine wP_max ?_ | refine xIaN ?_ | refine xIaO ?_ | refine xIaU ?_ | refine xBuild ?_ | refine xPure ?_) | ((with_reducible refine id_wR ?_); refine id_new ?_; refine xRead ?_) | ((with_reducible refine id_wA ?_); first | refine xBsl ?_ | refine xAlloc ?_) | ((with_reducible refine id_wE ?_); refine id_newS ?_; refine xStore ?_) | ((with_reducible refine id_asB ?_); first | refine xTt ?_ | refine xFf ?_))
      refine asB_both (fun h => ?_) fun h => ?_
      · have h3 : 1 ≤ life := by simpa using h
        repeat (first | with_reducible refine atK.mk ?_ | with_reducible refine wChk_nil ?_ | with_reducible refine wChk1_nil ?_ | ((with_reducible refine id_wP ?_); first | refine xAdd ?_ | refine xSub ?_ | refine xConv ?_ | refine xMul ?_ | refine wP_max ?_ | refine xIaN ?_ | refine xIaO ?_ | refine xIaU ?_ | refine xBuild ?_ | refine xPure ?_) | ((with_reducible refine id_wR ?_); refine id_new ?_; refine xRead ?_) | ((with_reducible refine id_wA ?_); first | refine xBsl ?_ | refine xAlloc ?_) | ((with_reducible refine id_wE ?_); refine id_newS ?_; refine xStore ?_) | ((with_reducible refine id_asB ?_); first | refine xTt ?_ | refine xFf ?_))
        have := q _ (show Keeps H (H.push (.row [iv node, iv life] 0)) [] by exact kp)
        simp only [Se.ok, h1, h2, h3, decide_true, Bool.true_and] at this
        exact this
      · have h3 : ¬ 1 ≤ life := by simpa using h
        repeat (first | with_reducible refine atK.mk ?_ | with_reducible refine wChk_nil ?_ | with_reducible refine wChk1_nil ?_ | ((with_reducible refine id_wP ?_); first | refine xAdd ?_ | refine xSub ?_ | refine xConv ?_ | refine xMul ?_ | refine wP_max ?_ | refine xIaN ?_ | refine xIaO ?_ | refine xIaU ?_ | refine xBuild ?_ | refine xPure ?_) | ((with_reducible refine id_wR ?_); refine id_new ?_; refine xRead ?_) | ((with_reducible refine id_wA ?_); first | refine xBsl ?_ | refine xAlloc ?_) | ((with_reducible refine id_wE ?_); refine id_newS ?_; refine xStore ?_) | ((with_reducible refine id_asB ?_); first | refine xTt ?_ | refine xFf ?_))
        have := q _ (show Keeps H (H.push (.row [iv node, iv life] 0)) [] by exact kp)
        simp only [Se.ok, h3, decide_false, Bool.and_false, Bool.false_and] at this
        exact this
    · have h2 : ¬ node < 8 := by simpa using h
      repeat (first | with_reducible refine atK.mk ?_ | with_reducible refine wChk_nil ?_ | with_reducible refine wChk1_nil ?_ | ((with_reducible refine id_wP ?_); first | refine xAdd ?_ | refine xSub ?_ | refine xConv ?_ | refine xMul ?_ | refine wP_max ?_ | refine xIaN ?_ | refine xIaO ?_ | refine xIaU ?_ | refine xBuild ?_ | refine xPure ?_) | ((with_reducible refine id_wR ?_); refine id_new ?_; refine xRead ?_) | ((with_reducible refine id_wA ?_); first | refine xBsl ?_ | refine xAlloc ?_) | ((with_reducible refine id_wE ?_); refine id_newS ?_; refine xStore ?_) | ((with_reducible refine id_asB ?_); first | refine xTt ?_ | refine xFf ?_))
      have := q _ (show Keeps H (H.push (.row [iv node, iv life] 0)) [] by exact kp)
      simp only [Se.ok, h2, decide_false, Bool.and_false, Bool.false_and] at this
      exact this
  · have h1 : ¬ 0 ≤ node := by simpa using h
    repeat (first | with_reducible refine atK.mk ?_ | with_reducible refine wChk_nil ?_ | with_reducible refine wChk1_nil ?_ | ((with_reducible refine id_wP ?_); first | refine xAdd ?_ | refine xSub ?_ | refine xConv ?_ | refine xMul ?_ | refine wP_max ?_ | refine xIaN ?_ | refine xIaO ?_ | refine xIaU ?_ | refine xBuild ?_ | refine xPure ?_) | ((with_reducible refine id_wR ?_); refine id_new ?_; refine xRead ?_) | ((with_reducible refine id_wA ?_); first | refine xBsl ?_ | refine xAlloc ?_) | ((with_reducible refine id_wE ?_); refine id_newS ?_; refine xStore ?_) | ((with_reducible refine id_asB ?_); first | refine xTt ?_ | refine xFf ?_))
    have := q _ (show Keeps H (H.push (.row [iv node, iv life] 0)) [] by exact kp)
    simp only [Se.ok, h1, decide_false, Bool.and_false, Bool.false_and] at this
    exact this

abbrev seenR (S : List Int) : List Value := [.bool (decide (0 ∈ S)), .bool (decide (1 ∈ S)), .bool (decide (2 ∈ S)), .bool (decide (3 ∈ S)), .bool (decide (4 ∈ S)), .bool (decide (5 ∈ S)), .bool (decide (6 ∈ S)), .bool (decide (7 ∈ S))]

abbrev fr23 (sb : Nat) (chv : Value) (n i : Int) : WFr := mkW [(4, pt sb), (35, chv), (36, iv n), (37, iv i)]

theorem right_loop {H : Heap} {sb : Nat} {chv : Value} {sl : List Se} {Q : Value → Heap → Prop} (hlen : sl.length ≤ 8) (hsb : At H sb (.row (seenR []) 0)) (hr : RSl 3 H chv sl.length (seL sl)) (hd : sb ∉ newOf chv)
    (q : ∀ H', Keeps H H' [sb] → Q (.bool (sl.all Se.ok && decide (sl.map Se.node).Nodup)) H') : wLoop (look tb) nvNone c23_9 [4, 35, 36, 37] (fr23 sb chv sl.length 0) H (q23_1 (look tb) nvNone Q) := by
  refine wLoop_range sl.length (fun k wf H' => wf = fr23 sb chv sl.length k ∧ Keeps H H' [sb] ∧ At H' sb (.row (seenR ((sl.take k).map Se.node)) 0) ∧ (sl.take k).all Se.ok = true ∧ ((sl.take k).map Se.node).Nodup) ?_ ?_ ⟨rfl, Keeps.refl', hsb, rfl, by simp⟩
  · rintro k wf H' hi ⟨rfl, hk, hs, hok, hnd⟩ K' hK'
    obtain ⟨f, hf⟩ : ∃ f, sl[k]? = some f := ⟨_, List.getElem?_eq_getElem hi⟩
    have hfm : f ∈ sl := List.mem_of_getElem? hf
    have htk : sl.take (k + 1) = sl.take k ++ [f] := by rw [List.take_add_one, hf]; rfl
    have hsl := hs.lt
    have bad : ∀ H2, Keeps H' H2 [] → (sl.all Se.ok && decide (sl.map Se.node).Nodup) = false → q23_1 (look tb) nvNone Q .ret (mkW [(2, .bool false)]) H2 := by
      intro H2 k2 e
      rw [x23_9_0]
      rw [e] at q
      exact q H2 (hk.comp0 k2)
    rw [l23_9]
    repeat (first | with_reducible refine atK.mk ?_ | with_reducible refine wChk_nil ?_ | with_reducible refine wChk1_nil ?_ | ((with_reducible refine id_wP ?_); first | refine xAdd ?_ | refine xSub ?_ | refine xConv ?_ | refine xMul ?_ | refine wP_max ?_ | refine xIaN ?_ | refine xIaO ?_ | refine xIaU ?_ | refine xBuild ?_ | refine xPure ?_) | ((with_reducible refine id_wR ?_); refine id_new ?_; refine xRead ?_) | ((with_reducible refine id_wA ?_); first | refine xBsl ?_ | refine xAlloc ?_) | ((with_reducible refine id_wE ?_); refine id_newS ?_; refine xStore ?_) | ((with_reducible refine id_asB ?_); first | refine xTt ?_ | refine xFf ?_))
    refine hr.iadd hi (seL_at hf) fun p hp => ?_
    refine (hp H' [sb] hk (by intro b hb h; simp only [List.mem_singleton] at h; subst h; exact hd hb)).load ?_
    simp only [Se.c]
    repeat (first | with_reducible refine atK.mk ?_ | with_reducible refine wChk_nil ?_ | with_reducible refine wChk1_nil ?_ | ((with_reducible refine id_wP ?_); first | refine xAdd ?_ | refine xSub ?_ | refine xConv ?_ | refine xMul ?_ | refine wP_max ?_ | refine xIaN ?_ | refine xIaO ?_ | refine xIaU ?_ | refine xBuild ?_ | refine xPure ?_) | ((with_reducible refine id_wR ?_); refine id_new ?_; refine xRead ?_) | ((with_reducible refine id_wA ?_); first | refine xBsl ?_ | refine xAlloc ?_) | ((with_reducible refine id_wE ?_); refine id_newS ?_; refine xStore ?_) | ((with_reducible refine id_asB ?_); first | refine xTt ?_ | refine xFf ?_))
    refine s_may fun H2 k2 => ?_
    have hs2 : At H2 sb _ := At.keep0 (H := (H'.push (.row [iv 0, iv 0, .bool false] 0)).set H'.next (.row [iv f.node, iv f.life, .bool f.syn] 0)) (by exact atp) k2
    have hfb2 : At H2 H'.next (.row [iv f.node, iv f.life, .bool f.syn] 0) := At.keep0 (H := (H'.push (.row [iv 0, iv 0, .bool false] 0)).set H'.next (.row [iv f.node, iv f.life, .bool f.syn] 0)) (by exact atp) k2
    have hk2 : Keeps H' H2 [] := Keeps.comp0 (Ha := (H'.push (.row [iv 0, iv 0, .bool false] 0)).set H'.next (.row [iv f.node, iv f.life, .bool f.syn] 0)) (by exact kp) k2
    have hsl2 := hs2.lt
    repeat (first | with_reducible refine atK.mk ?_ | with_reducible refine wChk_nil ?_ | with_reducible refine wChk1_nil ?_ | ((with_reducible refine id_wP ?_); first | refine xAdd ?_ | refine xSub ?_ | refine xConv ?_ | refine xMul ?_ | refine wP_max ?_ | refine xIaN ?_ | refine xIaO ?_ | refine xIaU ?_ | refine xBuild ?_ | refine xPure ?_) | ((with_reducible refine id_wR ?_); refine id_new ?_; refine xRead ?_) | ((with_reducible refine id_wA ?_); first | refine xBsl ?_ | refine xAlloc ?_) | ((with_reducible refine id_wE ?_); refine id_newS ?_; refine xStore ?_) | ((with_reducible refine id_asB ?_); first | refine xTt ?_ | refine xFf ?_))
    refine asB_both (fun h => ?_) fun h => ?_
    · have hb : Se.ok ⟨f.node, f.life, true⟩ = false := by simpa using h
      repeat (first | with_reducible refine atK.mk ?_ | with_reducible refine wChk_nil ?_ | with_reducible refine wChk1_nil ?_ | ((with_reducible refine id_wP ?_); first | refine xAdd ?_ | refine xSub ?_ | refine xConv ?_ | refine xMul ?_ | refine wP_max ?_ | refine xIaN ?_ | refine xIaO ?_ | refine xIaU ?_ | refine xBuild ?_ | refine xPure ?_) | ((with_reducible refine id_wR ?_); refine id_new ?_; refine xRead ?_) | ((with_reducible refine id_wA ?_); first | refine xBsl ?_ | refine xAlloc ?_) | ((with_reducible refine id_wE ?_); refine id_newS ?_; refine xStore ?_) | ((with_reducible refine id_asB ?_); first | refine xTt ?_ | refine xFf ?_))
      refine bad H2 hk2 ?_
      have : sl.all Se.ok = false := by
        rw [List.all_eq_false]
        exact ⟨f, hfm, by rw [show f.ok = Se.ok ⟨f.node, f.life, true⟩ from rfl, hb]; simp⟩
      rw [this, Bool.false_and]
    have hb : Se.ok ⟨f.node, f.life, true⟩ = true := by simpa using h
    have hnode : f.node = 0 ∨ f.node = 1 ∨ f.node = 2 ∨ f.node = 3 ∨ f.node = 4 ∨ f.node = 5 ∨ f.node = 6 ∨ f.node = 7 := by
      simp only [Se.ok, Bool.and_eq_true, decide_eq_true_eq] at hb
      omega
    have main : ∀ n : Int, f.node = n → (wP (.iaddA 8 1) [pt sb, iv n] fun x46 => wR (.load 1 false) [x46] H2 fun x47 => asB x47 fun b48 => onB b48 (atK (kSeq K' (q23_1 (look tb) nvNone Q) .ret (mkW [(2, (.bool false))]) H2))
        (wP (.fadd 0) [pt H'.next] fun x49 => wP (.fadd 0) [x49] fun x50 => wR (.load 1 false) [x50] H2 fun x51 => wP (.iaddA 8 1) [pt sb, x51] fun x52 => wE (.store 1) [x52, .bool true] H2 fun x53 H54 =>
          wP (.bin .add) [iv k, iv 1] fun x55 => atK (kSeq K' (q23_1 (look tb) nvNone Q) .normal (mkW [(4, pt sb), (35, chv), (36, iv sl.length), (37, x55)]) H54))) := by
      intro n hn
      have dup : n ∈ (sl.take k).map Se.node → (sl.all Se.ok && decide (sl.map Se.node).Nodup) = false := by
        intro hm
        have : ¬ (sl.map Se.node).Nodup := by
          intro hnd2
          have h1 : ((sl.take (k + 1)).map Se.node).Nodup := List.Sublist.nodup (List.Sublist.map _ (List.take_sublist _ _)) hnd2
          rw [htk, List.map_append, List.nodup_append] at h1
          exact h1.2.2 n hm n (by simp [hn]) rfl
        simp [this]
      have go : n ∉ (sl.take k).map Se.node → ∀ H3, Keeps H2 H3 [sb] → At H3 sb (.row (seenR ((sl.take (k + 1)).map Se.node)) 0) → K' (mkW [(4, pt sb), (35, chv), (36, iv sl.length), (37, iv (k + 1))]) H3 := by
        intro hm H3 k3 h3
        refine hK' _ H3 ⟨rfl, (hk.comp0 hk2).comp k3 (by simp), h3, ?_, ?_⟩
        · rw [htk, List.all_append, hok, Bool.true_and]
          simp only [List.all_cons, List.all_nil, Bool.and_true]
          exact hb
        · rw [htk, List.map_append, List.nodup_append]
          refine ⟨hnd, by simp, ?_⟩
          intro a ha c hc
          simp only [List.map_cons, List.map_nil, List.mem_singleton] at hc
          subst hc
          intro e
          subst e
          exact hm (by rw [← hn]; exact ha)
      have hmem : ∀ z : Int, decide (z ∈ (sl.take (k + 1)).map Se.node) = (decide (z ∈ (sl.take k).map Se.node) || decide (z = n)) := by
        intro z
        rw [htk, List.map_append]
        simp [hn]
      have hn8 : n = 0 ∨ n = 1 ∨ n = 2 ∨ n = 3 ∨ n = 4 ∨ n = 5 ∨ n = 6 ∨ n = 7 := by rw [← hn]; exact hnode
      rw [hn] at hfb2
      have hfbl2 := hfb2.lt
      have hsb3 : sb ≠ H'.next := by omega
      rcases hn8 with rfl | rfl | rfl | rfl | rfl | rfl | rfl | rfl
      all_goals
        repeat (first | with_reducible refine atK.mk ?_ | with_reducible refine wChk_nil ?_ | with_reducible refine wChk1_nil ?_ | ((with_reducible refine id_wP ?_); first | refine xAdd ?_ | refine xSub ?_ | refine xConv ?_ | refine xMul ?_ | refine wP_max ?_ | refine xIaN ?_ | refine xIaO ?_ | refine xIaU ?_ | refine xBuild ?_ | refine xPure ?_) | ((with_reducible refine id_wR ?_); refine id_new ?_; refine xRead ?_) | ((with_reducible refine id_wA ?_); first | refine xBsl ?_ | refine xAlloc ?_) | ((with_reducible refine id_wE ?_); refine id_newS ?_; refine xStore ?_) | ((with_reducible refine id_asB ?_); first | refine xTt ?_ | refine xFf ?_))
        refine asB_both (fun h => ?_) fun h => ?_
        · repeat (first | with_reducible refine atK.mk ?_ | with_reducible refine wChk_nil ?_ | with_reducible refine wChk1_nil ?_ | ((with_reducible refine id_wP ?_); first | refine xAdd ?_ | refine xSub ?_ | refine xConv ?_ | refine xMul ?_ | refine wP_max ?_ | refine xIaN ?_ | refine xIaO ?_ | refine xIaU ?_ | refine xBuild ?_ | refine xPure ?_) | ((with_reducible refine id_wR ?_); refine id_new ?_; refine xRead ?_) | ((with_reducible refine id_wA ?_); first | refine xBsl ?_ | refine xAlloc ?_) | ((with_reducible refine id_wE ?_); refine id_newS ?_; refine xStore ?_) | ((with_reducible refine id_asB ?_); first | refine xTt ?_ | refine xFf ?_))
          exact bad H2 hk2 (dup (by simpa using h))
        · have hm := of_decide_eq_false h
          repeat (first | with_reducible refine atK.mk ?_ | with_reducible refine wChk_nil ?_ | with_reducible refine wChk1_nil ?_ | ((with_reducible refine id_wP ?_); first | refine xAdd ?_ | refine xSub ?_ | refine xConv ?_ | refine xMul ?_ | refine wP_max ?_ | refine xIaN ?_ | refine xIaO ?_ | refine xIaU ?_ | refine xBuild ?_ | refine xPure ?_) | ((with_reducible refine id_wR ?_); refine id_new ?_; refine xRead ?_) | ((with_reducible refine id_wA ?_); first | refine xBsl ?_ | refine xAlloc ?_) | ((with_reducible refine id_wE ?_); refine id_newS ?_; refine xStore ?_) | ((with_reducible refine id_asB ?_); first | refine xTt ?_ | refine xFf ?_))
          refine go hm _ (by exact kp) ?_
          have z := hs2.here (X := .row (seenR ((sl.take (k + 1)).map Se.node)) 0)
          simp only [seenR, hmem] at z ⊢
          simpa [splice] using z
    repeat (first | with_reducible refine atK.mk ?_ | with_reducible refine wChk_nil ?_ | with_reducible refine wChk1_nil ?_ | ((with_reducible refine id_wP ?_); first | refine xAdd ?_ | refine xSub ?_ | refine xConv ?_ | refine xMul ?_ | refine wP_max ?_ | refine xIaN ?_ | refine xIaO ?_ | refine xIaU ?_ | refine xBuild ?_ | refine xPure ?_) | ((with_reducible refine id_wR ?_); refine id_new ?_; refine xRead ?_) | ((with_reducible refine id_wA ?_); first | refine xBsl ?_ | refine xAlloc ?_) | ((with_reducible refine id_wE ?_); refine id_newS ?_; refine xStore ?_) | ((with_reducible refine id_asB ?_); first | refine xTt ?_ | refine xFf ?_))
    exact main f.node rfl
  · rintro wf H' ⟨rfl, hk, hs, hok, hnd⟩ K'
    rw [List.take_length] at hok hnd
    rw [l23_9]
    repeat (first | with_reducible refine atK.mk ?_ | with_reducible refine wChk_nil ?_ | with_reducible refine wChk1_nil ?_ | ((with_reducible refine id_wP ?_); first | refine xAdd ?_ | refine xSub ?_ | refine xConv ?_ | refine xMul ?_ | refine wP_max ?_ | refine xIaN ?_ | refine xIaO ?_ | refine xIaU ?_ | refine xBuild ?_ | refine xPure ?_) | ((with_reducible refine id_wR ?_); refine id_new ?_; refine xRead ?_) | ((with_reducible refine id_wA ?_); first | refine xBsl ?_ | refine xAlloc ?_) | ((with_reducible refine id_wE ?_); refine id_newS ?_; refine xStore ?_) | ((with_reducible refine id_asB ?_); first | refine xTt ?_ | refine xFf ?_))
    show q23_1 (look tb) nvNone Q (.exit 0) (mkW []) H'
    rw [x23_9_1, e23_21]
    repeat (first | with_reducible refine atK.mk ?_ | with_reducible refine wChk_nil ?_ | with_reducible refine wChk1_nil ?_ | ((with_reducible refine id_wP ?_); first | refine xAdd ?_ | refine xSub ?_ | refine xConv ?_ | refine xMul ?_ | refine wP_max ?_ | refine xIaN ?_ | refine xIaO ?_ | refine xIaU ?_ | refine xBuild ?_ | refine xPure ?_) | ((with_reducible refine id_wR ?_); refine id_new ?_; refine xRead ?_) | ((with_reducible refine id_wA ?_); first | refine xBsl ?_ | refine xAlloc ?_) | ((with_reducible refine id_wE ?_); refine id_newS ?_; refine xStore ?_) | ((with_reducible refine id_asB ?_); first | refine xTt ?_ | refine xFf ?_))
    have := q H' hk
    rw [hok, decide_eq_true hnd] at this
    exact this

end Go.Proofs.Ytfflfehfjgkcdaa.D
