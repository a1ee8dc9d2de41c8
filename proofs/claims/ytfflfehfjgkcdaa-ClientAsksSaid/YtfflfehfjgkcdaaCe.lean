/- The law ClientReqs, walked: its loop, and itself. No statement of the seat is proved in this text. -/
import Derived.Test.YtfflfehfjgkcdaaCd
import Derived.KernelRfl
set_option linter.unusedSimpArgs false
set_option linter.unusedVariables false
set_option maxRecDepth 100000
namespace Go.Proofs.Ytfflfehfjgkcdaa.D
open Go

abbrev callSh : List Sh := [.i .i64, .i .i64, .i .i64, .i .i64, .s]

theorem callSh_ok {B : Nat → Nat → Option Value} {cs : List Value} (h : ShsOk B callSh cs) : ∃ k id due node s, cs = [iv k, iv id, iv due, iv node, .string s] ∧ s.size ≤ maxLen := by
  obtain ⟨v0, r, rfl, h0, h⟩ := h.cons
  obtain ⟨v1, r, rfl, h1, h⟩ := h.cons
  obtain ⟨v2, r, rfl, h2, h⟩ := h.cons
  obtain ⟨v3, r, rfl, h3, h⟩ := h.cons
  obtain ⟨v4, r, rfl, h4, h⟩ := h.cons
  obtain rfl := h.nil
  obtain ⟨k, rfl, _⟩ := h0.int
  obtain ⟨id, rfl, _⟩ := h1.int
  obtain ⟨due, rfl, _⟩ := h2.int
  obtain ⟨node, rfl, _⟩ := h3.int
  obtain ⟨s, rfl, hs⟩ := h4.str
  exact ⟨k, id, due, node, s, rfl, hs⟩

/-- One round. -/
theorem reqs_iter {B : Nat → Nat → Option Value} {H : Heap} {x len len1 i : Nat} {req : Int} {a0 a1 : Value} {K : Kont}
    (hI : RInv B x req H) (h0 : 0 ≤ req ∧ req ≤ i) (hi : i < len) (hlen : len ≤ 100)
    (ha0 : ∃ b o cap cs, a0 = .slice (some ⟨b, o, some 0⟩) len cap ∧ rdBase B b (o + i * 5) 5 = some cs ∧ ShsOk B callSh cs)
    (ha1 : (∃ a cap, a1 = .slice a len1 cap) ∧ ∀ i, i < len1 → ∃ b o cap cs, a1 = .slice (some ⟨b, o, some 0⟩) len1 cap ∧ rdBase B b (o + i * 1) 1 = some cs ∧ ShsOk B [.i .u8] cs) (hlen1 : len1 ≤ 1000000)
    (q : ∀ H' req', RInv B x req' H' → 0 ≤ req' ∧ req' ≤ i + 1 → K .normal (fr3 a1 x req' a0 len (i + 1)) H') :
    wC (look tb) nvNone c3_9 (fr3 a1 x req a0 len i) H K := by
  obtain ⟨b, o, cap, cs, rfl, hrd, hcs⟩ := ha0
  obtain ⟨k, id, due, node, s, rfl, hs⟩ := callSh_ok hcs
  obtain ⟨hB, en, m, L, hx, hu⟩ := _root_.id hI
  have hxl := hx.lt
  have skip : ∀ H', Keeps H H' [] → w3_43 (look tb) nvNone a1 (pt x) (iv req) (.slice (some ⟨b, o, some 0⟩) len cap) (iv len) (iv i) H' K := by
    intro H' k'
    rw [e3_43]
    repeat (first | with_reducible refine atK.mk ?_ | with_reducible refine wChk_nil ?_ | with_reducible refine wChk1_nil ?_ | ((with_reducible refine id_wP ?_); first | refine xAdd ?_ | refine xSub ?_ | refine xConv ?_ | refine xMul ?_ | refine wP_max ?_ | refine xIaN ?_ | refine xIaO ?_ | refine xIaU ?_ | refine xBuild ?_ | refine xPure ?_) | ((with_reducible refine id_wR ?_); refine id_new ?_; refine xRead ?_) | ((with_reducible refine id_wA ?_); first | refine xBsl ?_ | refine xAlloc ?_) | ((with_reducible refine id_wE ?_); refine id_newS ?_; refine xStore ?_) | ((with_reducible refine id_asB ?_); first | refine xTt ?_ | refine xFf ?_))
    exact q H' req (hI.keep k') (by omega)
  rw [l3_9]
  repeat (first | with_reducible refine atK.mk ?_ | with_reducible refine wChk_nil ?_ | with_reducible refine wChk1_nil ?_ | ((with_reducible refine id_wP ?_); first | refine xAdd ?_ | refine xSub ?_ | refine xConv ?_ | refine xMul ?_ | refine wP_max ?_ | refine xIaN ?_ | refine xIaO ?_ | refine xIaU ?_ | refine xBuild ?_ | refine xPure ?_) | ((with_reducible refine id_wR ?_); refine id_new ?_; refine xRead ?_) | ((with_reducible refine id_wA ?_); first | refine xBsl ?_ | refine xAlloc ?_) | ((with_reducible refine id_wE ?_); refine id_newS ?_; refine xStore ?_) | ((with_reducible refine id_asB ?_); first | refine xTt ?_ | refine xFf ?_))
  refine wR_old (v := .agg ⟨[iv k, iv id, iv due, iv node, .string s]⟩) ?_ ?_
  · rw [hB]; exact ldb_agg hrd
  repeat (first | with_reducible refine atK.mk ?_ | with_reducible refine wChk_nil ?_ | with_reducible refine wChk1_nil ?_ | ((with_reducible refine id_wP ?_); first | refine xAdd ?_ | refine xSub ?_ | refine xConv ?_ | refine xMul ?_ | refine wP_max ?_ | refine xIaN ?_ | refine xIaO ?_ | refine xIaU ?_ | refine xBuild ?_ | refine xPure ?_) | ((with_reducible refine id_wR ?_); refine id_new ?_; refine xRead ?_) | ((with_reducible refine id_wA ?_); first | refine xBsl ?_ | refine xAlloc ?_) | ((with_reducible refine id_wE ?_); refine id_newS ?_; refine xStore ?_) | ((with_reducible refine id_asB ?_); first | refine xTt ?_ | refine xFf ?_))
  refine asB_both (fun h => ?_) fun h => ?_
  · repeat (first | with_reducible refine atK.mk ?_ | with_reducible refine wChk_nil ?_ | with_reducible refine wChk1_nil ?_ | ((with_reducible refine id_wP ?_); first | refine xAdd ?_ | refine xSub ?_ | refine xConv ?_ | refine xMul ?_ | refine wP_max ?_ | refine xIaN ?_ | refine xIaO ?_ | refine xIaU ?_ | refine xBuild ?_ | refine xPure ?_) | ((with_reducible refine id_wR ?_); refine id_new ?_; refine xRead ?_) | ((with_reducible refine id_wA ?_); first | refine xBsl ?_ | refine xAlloc ?_) | ((with_reducible refine id_wE ?_); refine id_newS ?_; refine xStore ?_) | ((with_reducible refine id_asB ?_); first | refine xTt ?_ | refine xFf ?_))
    exact skip _ (by exact kp)
  have hs2 : (s.size : Int) ≤ 256 := by simpa using h
  repeat (first | with_reducible refine atK.mk ?_ | with_reducible refine wChk_nil ?_ | with_reducible refine wChk1_nil ?_ | ((with_reducible refine id_wP ?_); first | refine xAdd ?_ | refine xSub ?_ | refine xConv ?_ | refine xMul ?_ | refine wP_max ?_ | refine xIaN ?_ | refine xIaO ?_ | refine xIaU ?_ | refine xBuild ?_ | refine xPure ?_) | ((with_reducible refine id_wR ?_); refine id_new ?_; refine xRead ?_) | ((with_reducible refine id_wA ?_); first | refine xBsl ?_ | refine xAlloc ?_) | ((with_reducible refine id_wE ?_); refine id_newS ?_; refine xStore ?_) | ((with_reducible refine id_asB ?_); first | refine xTt ?_ | refine xFf ?_))
  refine asB_both (fun h => ?_) fun h => ?_
  · repeat (first | with_reducible refine atK.mk ?_ | with_reducible refine wChk_nil ?_ | with_reducible refine wChk1_nil ?_ | ((with_reducible refine id_wP ?_); first | refine xAdd ?_ | refine xSub ?_ | refine xConv ?_ | refine xMul ?_ | refine wP_max ?_ | refine xIaN ?_ | refine xIaO ?_ | refine xIaU ?_ | refine xBuild ?_ | refine xPure ?_) | ((with_reducible refine id_wR ?_); refine id_new ?_; refine xRead ?_) | ((with_reducible refine id_wA ?_); first | refine xBsl ?_ | refine xAlloc ?_) | ((with_reducible refine id_wE ?_); refine id_newS ?_; refine xStore ?_) | ((with_reducible refine id_asB ?_); first | refine xTt ?_ | refine xFf ?_))
    exact skip _ (by exact kp)
  have hk1 : 1 ≤ k := by simpa using h
  repeat (first | with_reducible refine atK.mk ?_ | with_reducible refine wChk_nil ?_ | with_reducible refine wChk1_nil ?_ | ((with_reducible refine id_wP ?_); first | refine xAdd ?_ | refine xSub ?_ | refine xConv ?_ | refine xMul ?_ | refine wP_max ?_ | refine xIaN ?_ | refine xIaO ?_ | refine xIaU ?_ | refine xBuild ?_ | refine xPure ?_) | ((with_reducible refine id_wR ?_); refine id_new ?_; refine xRead ?_) | ((with_reducible refine id_wA ?_); first | refine xBsl ?_ | refine xAlloc ?_) | ((with_reducible refine id_wE ?_); refine id_newS ?_; refine xStore ?_) | ((with_reducible refine id_asB ?_); first | refine xTt ?_ | refine xFf ?_))
  refine asB_both (fun h => ?_) fun h => ?_
  · repeat (first | with_reducible refine atK.mk ?_ | with_reducible refine wChk_nil ?_ | with_reducible refine wChk1_nil ?_ | ((with_reducible refine id_wP ?_); first | refine xAdd ?_ | refine xSub ?_ | refine xConv ?_ | refine xMul ?_ | refine wP_max ?_ | refine xIaN ?_ | refine xIaO ?_ | refine xIaU ?_ | refine xBuild ?_ | refine xPure ?_) | ((with_reducible refine id_wR ?_); refine id_new ?_; refine xRead ?_) | ((with_reducible refine id_wA ?_); first | refine xBsl ?_ | refine xAlloc ?_) | ((with_reducible refine id_wE ?_); refine id_newS ?_; refine xStore ?_) | ((with_reducible refine id_asB ?_); first | refine xTt ?_ | refine xFf ?_))
    exact skip _ (by exact kp)
  have hk3 : k ≤ 3 := by simpa using h
  repeat (first | with_reducible refine atK.mk ?_ | with_reducible refine wChk_nil ?_ | with_reducible refine wChk1_nil ?_ | ((with_reducible refine id_wP ?_); first | refine xAdd ?_ | refine xSub ?_ | refine xConv ?_ | refine xMul ?_ | refine wP_max ?_ | refine xIaN ?_ | refine xIaO ?_ | refine xIaU ?_ | refine xBuild ?_ | refine xPure ?_) | ((with_reducible refine id_wR ?_); refine id_new ?_; refine xRead ?_) | ((with_reducible refine id_wA ?_); first | refine xBsl ?_ | refine xAlloc ?_) | ((with_reducible refine id_wE ?_); refine id_newS ?_; refine xStore ?_) | ((with_reducible refine id_asB ?_); first | refine xTt ?_ | refine xFf ?_))
  refine s_call (a := 103) (reqs := req) (ep := 0) (cu := 0) (now := 0) (k := k) (id := id) (due := due) (node := node) (s := s) (en := en) (ha := .slice none 0 0) (m := m) (by exact atp) hk1 hk3 hs2 (by omega) fun H1 c v k1 hx1 hc1 hne => ?_
  have hcb : At H1 H.next (.row [iv k, iv id, iv due, iv node, .string s] 0) := At.keep (H := (H.push _).set _ _) (by exact atp) k1 (by simp only [List.mem_singleton]; omega)
  have hu1 : USl 13 H1 en 0 L := (hu.keep (H' := H1) (M := [x]) (Keeps.comp (Ha := (H.push _).set _ _) (by exact kp) k1 (by simp)) (by
    intro b' hb' h
    simp only [List.mem_singleton] at h
    subst h
    exact hu.ne hx (by simp) hb'))
  have hB1 : H1.base = B := by rw [k1.base]; exact hB
  have hxl1 := hx1.lt
  have hcl1 := hc1.lt
  have hcbl1 := hcb.lt
  have hxcb : x ≠ H.next := by omega
  repeat (first | with_reducible refine atK.mk ?_ | with_reducible refine wChk_nil ?_ | with_reducible refine wChk1_nil ?_ | ((with_reducible refine id_wP ?_); first | refine xAdd ?_ | refine xSub ?_ | refine xConv ?_ | refine xMul ?_ | refine wP_max ?_ | refine xIaN ?_ | refine xIaO ?_ | refine xIaU ?_ | refine xBuild ?_ | refine xPure ?_) | ((with_reducible refine id_wR ?_); refine id_new ?_; refine xRead ?_) | ((with_reducible refine id_wA ?_); first | refine xBsl ?_ | refine xAlloc ?_) | ((with_reducible refine id_wE ?_); refine id_newS ?_; refine xStore ?_) | ((with_reducible refine id_asB ?_); first | refine xTt ?_ | refine xFf ?_))
  have main : ∀ mk : Int, ((mk = 8 ∧ k ≠ 3) ∨ (mk = 10 ∧ k = 3)) → w3_28 (look tb) nvNone a1 (pt x) (iv (req + 1)) (iv i) (pt H.next) (iv mk) (.slice (some ⟨b, o, some 0⟩) len cap) (iv len) (iv i) H1 K := by
    intro mk hmk
    have fin : ∀ H', Keeps H1 H' [] → w3_32 (look tb) nvNone a1 (pt x) (iv (req + 1)) (iv i) (pt H.next) (iv mk) (.slice (some ⟨b, o, some 0⟩) len cap) (iv len) (iv i) H' K := by
      intro H' k'
      refine reqs_end (x := x) (c := c) (cb := H.next) (m := m) (req := req + 1) (k := k) (id := id) (due := due) (node := node) (mk := mk) (s := s) (en := en) (L := L) (k'.base.trans hB1) (hx1.keep0 k') (hc1.keep0 k') (hu1.keep k' (by simp)) (hcb.keep0 k') hxcb hmk (by omega) (by omega) fun H'' hI'' => ?_
      exact q H'' (req + 1) hI'' (by omega)
    rw [e3_28]
    obtain ⟨⟨a, cap1, ha⟩, hel⟩ := ha1
    subst ha
    repeat (first | with_reducible refine atK.mk ?_ | with_reducible refine wChk_nil ?_ | with_reducible refine wChk1_nil ?_ | ((with_reducible refine id_wP ?_); first | refine xAdd ?_ | refine xSub ?_ | refine xConv ?_ | refine xMul ?_ | refine wP_max ?_ | refine xIaN ?_ | refine xIaO ?_ | refine xIaU ?_ | refine xBuild ?_ | refine xPure ?_) | ((with_reducible refine id_wR ?_); refine id_new ?_; refine xRead ?_) | ((with_reducible refine id_wA ?_); first | refine xBsl ?_ | refine xAlloc ?_) | ((with_reducible refine id_wE ?_); refine id_newS ?_; refine xStore ?_) | ((with_reducible refine id_asB ?_); first | refine xTt ?_ | refine xFf ?_))
    refine asB_both (fun h => ?_) fun h => ?_
    · have hil : i < len1 := by simpa using h
      obtain ⟨b1, o1, cap1', cs1, he, hrd1, hcs1⟩ := hel i hil
      cases he
      obtain ⟨v1, r1, rfl, hv1, hr1⟩ := hcs1.cons
      obtain rfl := hr1.nil
      obtain ⟨n1, rfl, hn1, hn2⟩ := hv1.int
      have hn1' : 0 ≤ n1 := hn1
      have hn2' : n1 ≤ 255 := hn2
      repeat (first | with_reducible refine atK.mk ?_ | with_reducible refine wChk_nil ?_ | with_reducible refine wChk1_nil ?_ | ((with_reducible refine id_wP ?_); first | refine xAdd ?_ | refine xSub ?_ | refine xConv ?_ | refine xMul ?_ | refine wP_max ?_ | refine xIaN ?_ | refine xIaO ?_ | refine xIaU ?_ | refine xBuild ?_ | refine xPure ?_) | ((with_reducible refine id_wR ?_); refine id_new ?_; refine xRead ?_) | ((with_reducible refine id_wA ?_); first | refine xBsl ?_ | refine xAlloc ?_) | ((with_reducible refine id_wE ?_); refine id_newS ?_; refine xStore ?_) | ((with_reducible refine id_asB ?_); first | refine xTt ?_ | refine xFf ?_))
      refine wR_old (v := .int .u8 n1) ?_ ?_
      · rw [hB1]; exact ldb_one hrd1
      repeat (first | with_reducible refine atK.mk ?_ | with_reducible refine wChk_nil ?_ | with_reducible refine wChk1_nil ?_ | ((with_reducible refine id_wP ?_); first | refine xAdd ?_ | refine xSub ?_ | refine xConv ?_ | refine xMul ?_ | refine wP_max ?_ | refine xIaN ?_ | refine xIaO ?_ | refine xIaU ?_ | refine xBuild ?_ | refine xPure ?_) | ((with_reducible refine id_wR ?_); refine id_new ?_; refine xRead ?_) | ((with_reducible refine id_wA ?_); first | refine xBsl ?_ | refine xAlloc ?_) | ((with_reducible refine id_wE ?_); refine id_newS ?_; refine xStore ?_) | ((with_reducible refine id_asB ?_); first | refine xTt ?_ | refine xFf ?_))
      refine s_takeNo (k := k) (r := req + 1) (mk := mk) (mr := req + 1 + 1 + n1) hx1 hc1 (by omega) (by
        have : ((req + 1 : Int) == req + 1 + 1 + n1) = false := by simp; omega
        rw [this]; rfl) fun H2 k2 => ?_
      repeat (first | with_reducible refine atK.mk ?_ | with_reducible refine wChk_nil ?_ | with_reducible refine wChk1_nil ?_ | ((with_reducible refine id_wP ?_); first | refine xAdd ?_ | refine xSub ?_ | refine xConv ?_ | refine xMul ?_ | refine wP_max ?_ | refine xIaN ?_ | refine xIaO ?_ | refine xIaU ?_ | refine xBuild ?_ | refine xPure ?_) | ((with_reducible refine id_wR ?_); refine id_new ?_; refine xRead ?_) | ((with_reducible refine id_wA ?_); first | refine xBsl ?_ | refine xAlloc ?_) | ((with_reducible refine id_wE ?_); refine id_newS ?_; refine xStore ?_) | ((with_reducible refine id_asB ?_); first | refine xTt ?_ | refine xFf ?_))
      refine wR_old (v := .int .u8 n1) ?_ ?_
      · rw [k2.base, hB1]; exact ldb_one hrd1
      repeat (first | with_reducible refine atK.mk ?_ | with_reducible refine wChk_nil ?_ | with_reducible refine wChk1_nil ?_ | ((with_reducible refine id_wP ?_); first | refine xAdd ?_ | refine xSub ?_ | refine xConv ?_ | refine xMul ?_ | refine wP_max ?_ | refine xIaN ?_ | refine xIaO ?_ | refine xIaU ?_ | refine xBuild ?_ | refine xPure ?_) | ((with_reducible refine id_wR ?_); refine id_new ?_; refine xRead ?_) | ((with_reducible refine id_wA ?_); first | refine xBsl ?_ | refine xAlloc ?_) | ((with_reducible refine id_wE ?_); refine id_newS ?_; refine xStore ?_) | ((with_reducible refine id_asB ?_); first | refine xTt ?_ | refine xFf ?_))
      refine s_takeNo (k := k) (r := req + 1) (mk := mk) (mr := req + 1 - 1 - n1) (hx1.keep0 k2) (hc1.keep0 k2) (by omega) (by
        have : ((req + 1 : Int) == req + 1 - 1 - n1) = false := by simp; omega
        rw [this]; rfl) fun H3 k3 => ?_
      repeat (first | with_reducible refine atK.mk ?_ | with_reducible refine wChk_nil ?_ | with_reducible refine wChk1_nil ?_ | ((with_reducible refine id_wP ?_); first | refine xAdd ?_ | refine xSub ?_ | refine xConv ?_ | refine xMul ?_ | refine wP_max ?_ | refine xIaN ?_ | refine xIaO ?_ | refine xIaU ?_ | refine xBuild ?_ | refine xPure ?_) | ((with_reducible refine id_wR ?_); refine id_new ?_; refine xRead ?_) | ((with_reducible refine id_wA ?_); first | refine xBsl ?_ | refine xAlloc ?_) | ((with_reducible refine id_wE ?_); refine id_newS ?_; refine xStore ?_) | ((with_reducible refine id_asB ?_); first | refine xTt ?_ | refine xFf ?_))
      exact fin _ (k2.comp0 k3)
    · repeat (first | with_reducible refine atK.mk ?_ | with_reducible refine wChk_nil ?_ | with_reducible refine wChk1_nil ?_ | ((with_reducible refine id_wP ?_); first | refine xAdd ?_ | refine xSub ?_ | refine xConv ?_ | refine xMul ?_ | refine wP_max ?_ | refine xIaN ?_ | refine xIaO ?_ | refine xIaU ?_ | refine xBuild ?_ | refine xPure ?_) | ((with_reducible refine id_wR ?_); refine id_new ?_; refine xRead ?_) | ((with_reducible refine id_wA ?_); first | refine xBsl ?_ | refine xAlloc ?_) | ((with_reducible refine id_wE ?_); refine id_newS ?_; refine xStore ?_) | ((with_reducible refine id_asB ?_); first | refine xTt ?_ | refine xFf ?_))
      exact fin _ Keeps.refl'
  refine asB_both (fun h => ?_) fun h => ?_
  · have hk : k = 3 := by simpa using h
    repeat (first | with_reducible refine atK.mk ?_ | with_reducible refine wChk_nil ?_ | with_reducible refine wChk1_nil ?_ | ((with_reducible refine id_wP ?_); first | refine xAdd ?_ | refine xSub ?_ | refine xConv ?_ | refine xMul ?_ | refine wP_max ?_ | refine xIaN ?_ | refine xIaO ?_ | refine xIaU ?_ | refine xBuild ?_ | refine xPure ?_) | ((with_reducible refine id_wR ?_); refine id_new ?_; refine xRead ?_) | ((with_reducible refine id_wA ?_); first | refine xBsl ?_ | refine xAlloc ?_) | ((with_reducible refine id_wE ?_); refine id_newS ?_; refine xStore ?_) | ((with_reducible refine id_asB ?_); first | refine xTt ?_ | refine xFf ?_))
    exact main 10 (.inr ⟨rfl, hk⟩)
  · have hk : k ≠ 3 := by simpa using h
    repeat (first | with_reducible refine atK.mk ?_ | with_reducible refine wChk_nil ?_ | with_reducible refine wChk1_nil ?_ | ((with_reducible refine id_wP ?_); first | refine xAdd ?_ | refine xSub ?_ | refine xConv ?_ | refine xMul ?_ | refine wP_max ?_ | refine xIaN ?_ | refine xIaO ?_ | refine xIaU ?_ | refine xBuild ?_ | refine xPure ?_) | ((with_reducible refine id_wR ?_); refine id_new ?_; refine xRead ?_) | ((with_reducible refine id_wA ?_); first | refine xBsl ?_ | refine xAlloc ?_) | ((with_reducible refine id_wE ?_); refine id_newS ?_; refine xStore ?_) | ((with_reducible refine id_asB ?_); first | refine xTt ?_ | refine xFf ?_))
    exact main 8 (.inl ⟨rfl, hk⟩)

end Go.Proofs.Ytfflfehfjgkcdaa.D
