/- The law ClientReqs, walked. No statement of the seat is proved in this text. -/
import Derived.Test.YtfflfehfjgkcdaaCc
set_option linter.unusedSimpArgs false
set_option linter.unusedVariables false
set_option maxRecDepth 100000
namespace Go.Proofs.Ytfflfehfjgkcdaa.D
open Go

/-- A client of this law between two calls. -/
def RInv (B : Nat → Nat → Option Value) (x : Nat) (req : Int) (H : Heap) : Prop :=
  H.base = B ∧ ∃ en m L, At H x (.row (clRow 103 req (.pointer none) 0 (.slice none 0 0) en (.slice none 0 0) m 0) 0) ∧ USl 13 H en 0 L

theorem RInv.keep {B : Nat → Nat → Option Value} {x : Nat} {req : Int} {H H' : Heap} (h : RInv B x req H) (k : Keeps H H' []) : RInv B x req H' := by
  obtain ⟨hb, en, m, L, hx, hu⟩ := h
  exact ⟨k.base.trans hb, en, m, L, hx.keep0 k, hu.keep k (by simp)⟩

abbrev fr3 (a1 : Value) (x : Nat) (req : Int) (a0 : Value) (len i : Int) : WFr := mkW [(1, a1), (5, pt x), (7, iv req), (42, a0), (43, iv len), (44, iv i)]

/-- The end of a round: what became of the call. -/
theorem reqs_end {B : Nat → Nat → Option Value} {H : Heap} {x c cb m : Nat} {req i len k id due node mk : Int} {s : ByteArray} {en a0 a1 : Value} {L : List Value} {K : Kont}
    (hB : H.base = B) (hx : At H x (.row (clRow 103 req (pt c) 0 (.slice none 0 0) en (.slice none 0 0) m 0) 0)) (hc : At H c (.row [iv k, iv id, iv due, iv node, .string s, iv req, iv 0] 0)) (hu : USl 13 H en 0 L)
    (hcb : At H cb (.row [iv k, iv id, iv due, iv node, .string s] 0)) (hne : x ≠ cb) (hk : (mk = 8 ∧ k ≠ 3) ∨ (mk = 10 ∧ k = 3)) (hi : 0 ≤ i ∧ i < 1000000) (hr : 0 ≤ req ∧ req < 1000000)
    (q : ∀ H', RInv B x req H' → K .normal (fr3 a1 x req a0 len (i + 1)) H') : w3_32 (look tb) nvNone a1 (pt x) (iv req) (iv i) (pt cb) (iv mk) a0 (iv len) (iv i) H K := by
  have hL : L = [] := by have := hu.length; simpa using this
  subst hL
  have hxl := hx.lt
  have hcl := hc.lt
  have hcbl := hcb.lt
  rw [e3_32]
  refine s_pending1 hx hc ?_
  repeat (first | with_reducible refine atK.mk ?_ | with_reducible refine wChk_nil ?_ | with_reducible refine wChk1_nil ?_ | ((with_reducible refine id_wP ?_); first | refine xAdd ?_ | refine xSub ?_ | refine xConv ?_ | refine xMul ?_ | refine wP_max ?_ | refine xIaN ?_ | refine xIaO ?_ | refine xIaU ?_ | refine xBuild ?_ | refine xPure ?_) | ((with_reducible refine id_wR ?_); refine id_new ?_; refine xRead ?_) | ((with_reducible refine id_wA ?_); first | refine xBsl ?_ | refine xAlloc ?_) | ((with_reducible refine id_wE ?_); refine id_newS ?_; refine xStore ?_) | ((with_reducible refine id_asB ?_); first | refine xTt ?_ | refine xFf ?_))
  refine asB_ff (by simp) ?_
  repeat (first | with_reducible refine atK.mk ?_ | with_reducible refine wChk_nil ?_ | with_reducible refine wChk1_nil ?_ | ((with_reducible refine id_wP ?_); first | refine xAdd ?_ | refine xSub ?_ | refine xConv ?_ | refine xMul ?_ | refine wP_max ?_ | refine xIaN ?_ | refine xIaO ?_ | refine xIaU ?_ | refine xBuild ?_ | refine xPure ?_) | ((with_reducible refine id_wR ?_); refine id_new ?_; refine xRead ?_) | ((with_reducible refine id_wA ?_); first | refine xBsl ?_ | refine xAlloc ?_) | ((with_reducible refine id_wE ?_); refine id_newS ?_; refine xStore ?_) | ((with_reducible refine id_asB ?_); first | refine xTt ?_ | refine xFf ?_))
  refine s_takeYes (k := k) (r := req) (mk := mk) (mr := req) (sq := i) hx hc hu (by omega) (by omega) (by rcases hk with ⟨rfl, h⟩ | ⟨rfl, h⟩ <;> simp [h]) fun H1 en1 h1 h2 h3 h4 => ?_
  have hcbu : cb ∉ blkOf en := hu.ne hcb (by simp)
  have hcb1 : At H1 cb _ := hcb.keep h3 (by simp only [List.mem_cons]; rintro (e | e); exact hne e.symm; exact hcbu e)
  refine s_next1 h1 h2 rfl fun H2 en2 k2 h5 h6 h7 => ?_
  have hcb2 : At H2 cb _ := hcb1.keep k2 (by simp only [List.mem_singleton]; exact fun e => hne e.symm)
  have hxl2 := h5.lt
  have hcbl2 := hcb2.lt
  repeat (first | with_reducible refine atK.mk ?_ | with_reducible refine wChk_nil ?_ | with_reducible refine wChk1_nil ?_ | ((with_reducible refine id_wP ?_); first | refine xAdd ?_ | refine xSub ?_ | refine xConv ?_ | refine xMul ?_ | refine wP_max ?_ | refine xIaN ?_ | refine xIaO ?_ | refine xIaU ?_ | refine xBuild ?_ | refine xPure ?_) | ((with_reducible refine id_wR ?_); refine id_new ?_; refine xRead ?_) | ((with_reducible refine id_wA ?_); first | refine xBsl ?_ | refine xAlloc ?_) | ((with_reducible refine id_wE ?_); refine id_newS ?_; refine xStore ?_) | ((with_reducible refine id_asB ?_); first | refine xTt ?_ | refine xFf ?_))
  refine asB_ff (by simp) ?_
  repeat (first | with_reducible refine atK.mk ?_ | with_reducible refine wChk_nil ?_ | with_reducible refine wChk1_nil ?_ | ((with_reducible refine id_wP ?_); first | refine xAdd ?_ | refine xSub ?_ | refine xConv ?_ | refine xMul ?_ | refine wP_max ?_ | refine xIaN ?_ | refine xIaO ?_ | refine xIaU ?_ | refine xBuild ?_ | refine xPure ?_) | ((with_reducible refine id_wR ?_); refine id_new ?_; refine xRead ?_) | ((with_reducible refine id_wA ?_); first | refine xBsl ?_ | refine xAlloc ?_) | ((with_reducible refine id_wE ?_); refine id_newS ?_; refine xStore ?_) | ((with_reducible refine id_asB ?_); first | refine xTt ?_ | refine xFf ?_))
  refine asB_ff (by simp) ?_
  repeat (first | with_reducible refine atK.mk ?_ | with_reducible refine wChk_nil ?_ | with_reducible refine wChk1_nil ?_ | ((with_reducible refine id_wP ?_); first | refine xAdd ?_ | refine xSub ?_ | refine xConv ?_ | refine xMul ?_ | refine wP_max ?_ | refine xIaN ?_ | refine xIaO ?_ | refine xIaU ?_ | refine xBuild ?_ | refine xPure ?_) | ((with_reducible refine id_wR ?_); refine id_new ?_; refine xRead ?_) | ((with_reducible refine id_wA ?_); first | refine xBsl ?_ | refine xAlloc ?_) | ((with_reducible refine id_wE ?_); refine id_newS ?_; refine xStore ?_) | ((with_reducible refine id_asB ?_); first | refine xTt ?_ | refine xFf ?_))
  refine wP_aggEq (r := true) rfl rfl (by simp [eqCells, eq1]) ?_
  repeat (first | with_reducible refine atK.mk ?_ | with_reducible refine wChk_nil ?_ | with_reducible refine wChk1_nil ?_ | ((with_reducible refine id_wP ?_); first | refine xAdd ?_ | refine xSub ?_ | refine xConv ?_ | refine xMul ?_ | refine wP_max ?_ | refine xIaN ?_ | refine xIaO ?_ | refine xIaU ?_ | refine xBuild ?_ | refine xPure ?_) | ((with_reducible refine id_wR ?_); refine id_new ?_; refine xRead ?_) | ((with_reducible refine id_wA ?_); first | refine xBsl ?_ | refine xAlloc ?_) | ((with_reducible refine id_wE ?_); refine id_newS ?_; refine xStore ?_) | ((with_reducible refine id_asB ?_); first | refine xTt ?_ | refine xFf ?_))
  rw [e3_43]
  repeat (first | with_reducible refine atK.mk ?_ | with_reducible refine wChk_nil ?_ | with_reducible refine wChk1_nil ?_ | ((with_reducible refine id_wP ?_); first | refine xAdd ?_ | refine xSub ?_ | refine xConv ?_ | refine xMul ?_ | refine wP_max ?_ | refine xIaN ?_ | refine xIaO ?_ | refine xIaU ?_ | refine xBuild ?_ | refine xPure ?_) | ((with_reducible refine id_wR ?_); refine id_new ?_; refine xRead ?_) | ((with_reducible refine id_wA ?_); first | refine xBsl ?_ | refine xAlloc ?_) | ((with_reducible refine id_wE ?_); refine id_newS ?_; refine xStore ?_) | ((with_reducible refine id_asB ?_); first | refine xTt ?_ | refine xFf ?_))
  refine q _ ?_
  refine RInv.keep (H := H2) ⟨?_, en2, m, [], h5, h6⟩ (by exact kp)
  rw [k2.base, h3.base, hB]

end Go.Proofs.Ytfflfehfjgkcdaa.D
