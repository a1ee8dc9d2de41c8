/- The law ClientAsks, walked: its loop, and itself. No statement of the seat is proved in this text. -/
import Derived.Test.YtfflfehfjgkcdaaCs
set_option linter.unusedSimpArgs false
set_option linter.unusedVariables false
set_option maxRecDepth 100000
namespace Go.Proofs.Ytfflfehfjgkcdaa.D
open Go

abbrev confSh : List Sh := [.i .i64, .sl 3 seSh]

theorem confSh_ok {B : Nat → Nat → Option Value} {cs : List Value} (h : ShsOk B confSh cs) : ∃ (ep : Int) (ch : Value), cs = [iv ep, ch] ∧ ShOk B (.sl 3 seSh) ch := by
  obtain ⟨v0, r, rfl, h0, h⟩ := h.cons
  obtain ⟨v1, r, rfl, h1, h⟩ := h.cons
  obtain rfl := h.nil
  obtain ⟨n0, rfl, _⟩ := h0.int
  exact ⟨n0, v1, rfl, h1⟩

theorem asks_loop {B : Nat → Nat → Option Value} {H : Heap} {x c cb kb m len : Nat} {k id due node nw : Int} {s : ByteArray} {a1 chv kch : Value} {sl : List Se} {ep : Int} {Q : Value → Heap → Prop} (hB : H.base = B) (hlen : len ≤ 30)
    (hI : AInv H x c cb kb m k id due node nw s ep chv kch sl) (hnw : 0 ≤ nw ∧ nw < 1099511627776) (hk : 1 ≤ k ∧ k ≤ 3)
    (he : ∀ i, i < len → ∃ b o cap cs, a1 = .slice (some ⟨b, o, some 0⟩) len cap ∧ rdBase B b (o + i * 2) 2 = some cs ∧ ShsOk B confSh cs)
    (q : ∀ H', Q (.bool true) H') : wLoop (look tb) nvNone c5_15 [2, 3, 7, 11, 58, 59, 60] (fr5 nw cb x kb a1 len 0) H (q5_1 (look tb) nvNone Q) := by
  refine wLoop_range len (fun i wf H' => wf = fr5 nw cb x kb a1 len i ∧ H'.base = B ∧ ∃ ep chv kch sl, AInv H' x c cb kb m k id due node nw s ep chv kch sl) ?_ ?_ ⟨rfl, hB, ep, chv, kch, sl, hI⟩
  · rintro i wf H1 hi ⟨rfl, hB1, ep, chv, kch, sl, h⟩ K' hK'
    obtain ⟨b, o, cap, cs, rfl, hrd, hcs⟩ := he i hi
    obtain ⟨dep, dch, rfl, hdch⟩ := confSh_ok hcs
    obtain ⟨sd, hsd, hdo, _, _⟩ := hdch.list (f := Se.c) (p := fun _ => True) fun cs h => seSh_ok h
    have hod : oneC dch = true := (hsd H1 hB1).isOne
    have hall : [iv dep, dch].all oneC = true := by
      rw [List.all_cons, List.all_cons, hod]
      rfl
    have hxl := h.ax.lt
    have hkbl := h.akb.lt
    have hcbl := h.acb.lt
    have hcl := h.ac.lt
    rw [l5_15]
    repeat (first | with_reducible refine atK.mk ?_ | with_reducible refine wChk_nil ?_ | with_reducible refine wChk1_nil ?_ | ((with_reducible refine id_wP ?_); first | refine xAdd ?_ | refine xSub ?_ | refine xConv ?_ | refine xMul ?_ | refine wP_max ?_ | refine xIaN ?_ | refine xIaO ?_ | refine xIaU ?_ | refine xBuild ?_ | refine xPure ?_) | ((with_reducible refine id_wR ?_); refine id_new ?_; refine xRead ?_) | ((with_reducible refine id_wA ?_); first | refine xBsl ?_ | refine xAlloc ?_) | ((with_reducible refine id_wE ?_); refine id_newS ?_; refine xStore ?_) | ((with_reducible refine id_asB ?_); first | refine xTt ?_ | refine xFf ?_))
    refine wR_old (v := .agg ⟨[iv dep, dch]⟩) ?_ ?_
    · rw [hB1]; exact ldb_agg hrd
    repeat (first | with_reducible refine atK.mk ?_ | with_reducible refine wChk_nil ?_ | with_reducible refine wChk1_nil ?_ | ((with_reducible refine id_wP ?_); first | refine xAdd ?_ | refine xSub ?_ | refine xConv ?_ | refine xMul ?_ | refine wP_max ?_ | refine xIaN ?_ | refine xIaO ?_ | refine xIaU ?_ | refine xBuild ?_ | refine xPure ?_) | ((with_reducible refine id_wR ?_); refine id_new ?_; refine xRead ?_) | ((with_reducible refine id_wA ?_); first | refine xBsl ?_ | refine xAlloc ?_) | ((with_reducible refine id_wE ?_); refine id_newS ?_; refine xStore ?_) | ((with_reducible refine id_asB ?_); first | refine xTt ?_ | refine xFf ?_))
    have kk : Keeps H1 ((H1.push (.row [iv 0, .slice none 0 0] 0)).set H1.next (.row [iv dep, dch] 0)) [] := by exact kp
    have hdb : At ((H1.push (.row [iv 0, .slice none 0 0] 0)).set H1.next (.row [iv dep, dch] 0)) H1.next (.row [iv dep, dch] 0) := by exact atp
    have hsd2 := hsd _ (show ((H1.push (.row [iv 0, .slice none 0 0] 0)).set H1.next (.row [iv dep, dch] 0)).base = B from hB1)
    refine hsd2.lenS ?_
    repeat (first | with_reducible refine atK.mk ?_ | with_reducible refine wChk_nil ?_ | with_reducible refine wChk1_nil ?_ | ((with_reducible refine id_wP ?_); first | refine xAdd ?_ | refine xSub ?_ | refine xConv ?_ | refine xMul ?_ | refine wP_max ?_ | refine xIaN ?_ | refine xIaO ?_ | refine xIaU ?_ | refine xBuild ?_ | refine xPure ?_) | ((with_reducible refine id_wR ?_); refine id_new ?_; refine xRead ?_) | ((with_reducible refine id_wA ?_); first | refine xBsl ?_ | refine xAlloc ?_) | ((with_reducible refine id_wE ?_); refine id_newS ?_; refine xStore ?_) | ((with_reducible refine id_asB ?_); first | refine xTt ?_ | refine xFf ?_))
    refine asB_both (fun hh => ?_) fun hh => ?_
    · repeat (first | with_reducible refine atK.mk ?_ | with_reducible refine wChk_nil ?_ | with_reducible refine wChk1_nil ?_ | ((with_reducible refine id_wP ?_); first | refine xAdd ?_ | refine xSub ?_ | refine xConv ?_ | refine xMul ?_ | refine wP_max ?_ | refine xIaN ?_ | refine xIaO ?_ | refine xIaU ?_ | refine xBuild ?_ | refine xPure ?_) | ((with_reducible refine id_wR ?_); refine id_new ?_; refine xRead ?_) | ((with_reducible refine id_wA ?_); first | refine xBsl ?_ | refine xAlloc ?_) | ((with_reducible refine id_wE ?_); refine id_newS ?_; refine xStore ?_) | ((with_reducible refine id_asB ?_); first | refine xTt ?_ | refine xFf ?_))
      show q5_1 (look tb) nvNone Q .ret (mkW [(6, .bool true)]) _
      rw [x5_15_0]
      exact q _
    have hsl : sd.length ≤ 20 := by
      have : (sd.length : Int) ≤ 20 := by simpa using hh
      omega
    repeat (first | with_reducible refine atK.mk ?_ | with_reducible refine wChk_nil ?_ | with_reducible refine wChk1_nil ?_ | ((with_reducible refine id_wP ?_); first | refine xAdd ?_ | refine xSub ?_ | refine xConv ?_ | refine xMul ?_ | refine wP_max ?_ | refine xIaN ?_ | refine xIaO ?_ | refine xIaU ?_ | refine xBuild ?_ | refine xPure ?_) | ((with_reducible refine id_wR ?_); refine id_new ?_; refine xRead ?_) | ((with_reducible refine id_wA ?_); first | refine xBsl ?_ | refine xAlloc ?_) | ((with_reducible refine id_wE ?_); refine id_newS ?_; refine xStore ?_) | ((with_reducible refine id_asB ?_); first | refine xTt ?_ | refine xFf ?_))
    have h2 := h.keep kk
    -- behind Take
    have after : ∀ H3, H1.next ≤ H3.next → H3.base = B → At H3 H1.next (.row [iv dep, dch] 0) → ∀ chv3 sl3 ep3, (rightB dep sd = true ∧ ep < dep → sl3 = sd ∧ ep3 = dep) → (¬ (rightB dep sd = true ∧ ep < dep) → sl3 = sl ∧ ep3 = ep) →
        At H3 x (.row (clRow 102 1 (pt c) ep3 chv3 (.slice none 0 0) (.slice none 0 0) m 0) 0) → At H3 c (.row [iv k, iv id, iv due, iv node, .string s, iv 1, iv nw] 0) → At H3 cb (.row [iv k, iv id, iv due, iv node, .string s] 0) → At H3 kb (.row [iv ep, kch] 0) →
        RSl 3 H3 chv3 sl3.length (seL sl3) → RSl 3 H3 kch sl.length (seL sl) → (∀ b ∈ newOf chv3, b ≠ x ∧ b ≠ c ∧ b ≠ cb ∧ b ≠ kb) →
        (wR (.load 2 true) [.pointer (some ⟨H1.next, 0, none⟩)] H3 fun x70 => Ev (look tb) nvNone 16 [x70] H3 fun x71 H72 =>
          asB x71 fun b73 => onB b73 (wP (.fadd 0) [.pointer (some ⟨H1.next, 0, none⟩)] fun x74 => wR (.load 1 false) [x74] H72 fun x75 => wP (.fadd 0) [pt kb] fun x76 => wR (.load 1 false) [x76] H72 fun x77 => wP (.bin .gtr) [x75, x77] fun x78 =>
            asB x78 fun b79 => onB b79 (wR (.load 2 true) [.pointer (some ⟨H1.next, 0, none⟩)] H72 fun x80 => wE (.store 2) [pt kb, x80] H72 fun x81 H82 =>
              atK (w5_29 (look tb) nvNone (iv nw) (pt cb) (pt x) (pt kb) (.slice (some ⟨b, o, some 0⟩) len cap) (iv len) (iv i) H82 (kSeq K' (q5_1 (look tb) nvNone Q))))
              (atK (w5_29 (look tb) nvNone (iv nw) (pt cb) (pt x) (pt kb) (.slice (some ⟨b, o, some 0⟩) len cap) (iv len) (iv i) H72 (kSeq K' (q5_1 (look tb) nvNone Q)))))
            (atK (w5_29 (look tb) nvNone (iv nw) (pt cb) (pt x) (pt kb) (.slice (some ⟨b, o, some 0⟩) len cap) (iv len) (iv i) H72 (kSeq K' (q5_1 (look tb) nvNone Q))))) := by
      intro H3 hn3 hB3 hdb3 chv3 sl3 ep3 hyes hno hx3 hc3 hcb3 hkb3 hch3 hkch3 hdis3
      have hdl := hdb3.lt
      repeat (first | with_reducible refine atK.mk ?_ | with_reducible refine wChk_nil ?_ | with_reducible refine wChk1_nil ?_ | ((with_reducible refine id_wP ?_); first | refine xAdd ?_ | refine xSub ?_ | refine xConv ?_ | refine xMul ?_ | refine wP_max ?_ | refine xIaN ?_ | refine xIaO ?_ | refine xIaU ?_ | refine xBuild ?_ | refine xPure ?_) | ((with_reducible refine id_wR ?_); refine id_new ?_; refine xRead ?_) | ((with_reducible refine id_wA ?_); first | refine xBsl ?_ | refine xAlloc ?_) | ((with_reducible refine id_wE ?_); refine id_newS ?_; refine xStore ?_) | ((with_reducible refine id_asB ?_); first | refine xTt ?_ | refine xFf ?_))
      refine s_right16 (sl := sd) (hsd H3 hB3) fun H4 k4 => ?_
      have hdb4 := hdb3.keep0 k4
      have hx4 := hx3.keep0 k4
      have hc4 := hc3.keep0 k4
      have hcb4 := hcb3.keep0 k4
      have hkb4 := hkb3.keep0 k4
      have hch4 := hch3.keep k4 (by simp)
      have hkch4 := hkch3.keep k4 (by simp)
      have hB4 : H4.base = B := by rw [k4.base, hB3]
      have hkbl4 := hkb4.lt
      have same : ¬ (rightB dep sd = true ∧ ep < dep) → w5_29 (look tb) nvNone (iv nw) (pt cb) (pt x) (pt kb) (.slice (some ⟨b, o, some 0⟩) len cap) (iv len) (iv i) H4 (kSeq K' (q5_1 (look tb) nvNone Q)) := by
        intro hn
        obtain ⟨e1, e2⟩ := hno hn
        subst e1
        subst e2
        have hA : AInv H4 x c cb kb m k id due node nw s ep3 chv3 kch sl3 := ⟨hx4, hc4, hcb4, hkb4, hch4, hkch4, hdis3, h.old, h.len, h.xcb, h.xkb, h.xc, h.ckb, h.cbkb⟩
        refine asks_check hA hnw hk (by omega) fun H5 k5 => ?_
        exact hK' _ H5 ⟨rfl, by rw [k5.base, hB4], ep3, chv3, kch, sl3, hA.keep k5⟩
      cases hr : rightB dep sd with
      | false =>
        repeat (first | with_reducible refine atK.mk ?_ | with_reducible refine wChk_nil ?_ | with_reducible refine wChk1_nil ?_ | ((with_reducible refine id_wP ?_); first | refine xAdd ?_ | refine xSub ?_ | refine xConv ?_ | refine xMul ?_ | refine wP_max ?_ | refine xIaN ?_ | refine xIaO ?_ | refine xIaU ?_ | refine xBuild ?_ | refine xPure ?_) | ((with_reducible refine id_wR ?_); refine id_new ?_; refine xRead ?_) | ((with_reducible refine id_wA ?_); first | refine xBsl ?_ | refine xAlloc ?_) | ((with_reducible refine id_wE ?_); refine id_newS ?_; refine xStore ?_) | ((with_reducible refine id_asB ?_); first | refine xTt ?_ | refine xFf ?_))
        exact same (by simp [hr])
      | true =>
        repeat (first | with_reducible refine atK.mk ?_ | with_reducible refine wChk_nil ?_ | with_reducible refine wChk1_nil ?_ | ((with_reducible refine id_wP ?_); first | refine xAdd ?_ | refine xSub ?_ | refine xConv ?_ | refine xMul ?_ | refine wP_max ?_ | refine xIaN ?_ | refine xIaO ?_ | refine xIaU ?_ | refine xBuild ?_ | refine xPure ?_) | ((with_reducible refine id_wR ?_); refine id_new ?_; refine xRead ?_) | ((with_reducible refine id_wA ?_); first | refine xBsl ?_ | refine xAlloc ?_) | ((with_reducible refine id_wE ?_); refine id_newS ?_; refine xStore ?_) | ((with_reducible refine id_asB ?_); first | refine xTt ?_ | refine xFf ?_))
        refine asB_both (fun hh => ?_) fun hh => ?_
        · have hlt : ep < dep := by simpa using hh
          obtain ⟨e1, e2⟩ := hyes ⟨hr, hlt⟩
          subst e1
          subst e2
          repeat (first | with_reducible refine atK.mk ?_ | with_reducible refine wChk_nil ?_ | with_reducible refine wChk1_nil ?_ | ((with_reducible refine id_wP ?_); first | refine xAdd ?_ | refine xSub ?_ | refine xConv ?_ | refine xMul ?_ | refine wP_max ?_ | refine xIaN ?_ | refine xIaO ?_ | refine xIaU ?_ | refine xBuild ?_ | refine xPure ?_) | ((with_reducible refine id_wR ?_); refine id_new ?_; refine xRead ?_) | ((with_reducible refine id_wA ?_); first | refine xBsl ?_ | refine xAlloc ?_) | ((with_reducible refine id_wE ?_); refine id_newS ?_; refine xStore ?_) | ((with_reducible refine id_asB ?_); first | refine xTt ?_ | refine xFf ?_))
          have hsd4 := hsd H4 hB4
          have hxkb := h.xkb
          have hckb := h.ckb
          have hcbkb := h.cbkb
          have hA : AInv (H4.set kb (.row [iv ep3, dch] 0)) x c cb kb m k id due node nw s ep3 chv3 dch sl3 := by
            refine ⟨At.set hxkb hx4, At.set hckb hc4, At.set hcbkb hcb4, At.here hkb4, ?_, ?_, hdis3, hdo, hsl, h.xcb, h.xkb, h.xc, h.ckb, h.cbkb⟩
            · exact hch4.keep (M := [kb]) (by exact kp) (fun b h1 h2 => (hdis3 b h1).2.2.2 (by simpa using h2))
            · exact hsd4.keep (M := [kb]) (by exact kp) (by rw [hdo]; simp)
          refine asks_check hA hnw hk (by omega) fun H5 k5 => ?_
          exact hK' _ H5 ⟨rfl, by rw [k5.base]; exact hB4, ep3, chv3, dch, sl3, hA.keep k5⟩
        · have hlt : ¬ ep < dep := by simpa using hh
          repeat (first | with_reducible refine atK.mk ?_ | with_reducible refine wChk_nil ?_ | with_reducible refine wChk1_nil ?_ | ((with_reducible refine id_wP ?_); first | refine xAdd ?_ | refine xSub ?_ | refine xConv ?_ | refine xMul ?_ | refine wP_max ?_ | refine xIaN ?_ | refine xIaO ?_ | refine xIaU ?_ | refine xBuild ?_ | refine xPure ?_) | ((with_reducible refine id_wR ?_); refine id_new ?_; refine xRead ?_) | ((with_reducible refine id_wA ?_); first | refine xBsl ?_ | refine xAlloc ?_) | ((with_reducible refine id_wE ?_); refine id_newS ?_; refine xStore ?_) | ((with_reducible refine id_asB ?_); first | refine xTt ?_ | refine xFf ?_))
          exact same (fun h => hlt h.2)
    refine s_takeConf (g := ⟨2, 102, 0, 0, 0, 0, 0, 0, 0, 0, false, 0, 0, 0, 0, 0, 0, 0, 0, 0, ⟨⟨[]⟩⟩, 0, 0, 0, dep, 0⟩) (sl := sd) h2.ax rfl hsd2 hdo rfl (by omega) (fun hno H3 k3 => ?_) fun hr hlt H3 v' hx3 hv3 hge3 k3 => .inr ⟨c, rfl, ?_⟩
    · have h3 := h2.keep k3
      have hn3 := k3.next
      refine after H3 (Nat.le_trans kk.next k3.next) (by rw [k3.base]; exact hB1) (hdb.keep0 k3) chv sl ep (fun hy => ?_) (fun _ => ⟨rfl, rfl⟩) h3.ax h3.ac h3.acb h3.akb h3.ach h3.akch h3.dis
      rcases hno with h | h
      · rw [hy.1] at h; cases h
      · have := hy.2
        have h' : dep ≤ ep := h
        omega
    · have hmem : ∀ z, z ≠ x → z ∉ [x] := fun z hz h => hz (by simpa using h)
      have hnx : H1.next ≠ x := by omega
      have hge' : ∀ b ∈ newOf v', H1.next < b := fun b hb => by have := hge3 b hb; simp only [next_push, next_set] at this; omega
      have hc3 := h2.ac.keep k3 (hmem c h.xc.symm)
      refine s_ask hx3 hc3 hv3 fun H4 b4 k4 _ _ => ?_
      have hn3 := k3.next
      have hn4 := k4.next
      refine after H4 (Nat.le_trans kk.next (Nat.le_trans k3.next k4.next)) (by rw [k4.base, k3.base]; exact hB1) ((hdb.keep k3 (hmem _ hnx)).keep0 k4) v' sd dep (fun _ => ⟨rfl, rfl⟩) (fun hn => absurd ⟨hr, hlt⟩ hn) (hx3.keep0 k4) (hc3.keep0 k4) ((h2.acb.keep k3 (hmem cb h.xcb.symm)).keep0 k4) ((h2.akb.keep k3 (hmem kb h.xkb.symm)).keep0 k4) (hv3.keep k4 (by simp)) ((h2.akch.keep k3 (by rw [h.old]; simp)).keep k4 (by simp)) ?_
      intro z hz
      have := hge' z hz
      exact ⟨by omega, by omega, by omega, by omega⟩
  · rintro wf H1 ⟨rfl, hB1, ep, chv, kch, sl, h⟩ K'
    rw [l5_15]
    repeat (first | with_reducible refine atK.mk ?_ | with_reducible refine wChk_nil ?_ | with_reducible refine wChk1_nil ?_ | ((with_reducible refine id_wP ?_); first | refine xAdd ?_ | refine xSub ?_ | refine xConv ?_ | refine xMul ?_ | refine wP_max ?_ | refine xIaN ?_ | refine xIaO ?_ | refine xIaU ?_ | refine xBuild ?_ | refine xPure ?_) | ((with_reducible refine id_wR ?_); refine id_new ?_; refine xRead ?_) | ((with_reducible refine id_wA ?_); first | refine xBsl ?_ | refine xAlloc ?_) | ((with_reducible refine id_wE ?_); refine id_newS ?_; refine xStore ?_) | ((with_reducible refine id_asB ?_); first | refine xTt ?_ | refine xFf ?_))
    show q5_1 (look tb) nvNone Q (.exit 0) (mkW []) H1
    rw [x5_15_1, e5_61]
    repeat (first | with_reducible refine atK.mk ?_ | with_reducible refine wChk_nil ?_ | with_reducible refine wChk1_nil ?_ | ((with_reducible refine id_wP ?_); first | refine xAdd ?_ | refine xSub ?_ | refine xConv ?_ | refine xMul ?_ | refine wP_max ?_ | refine xIaN ?_ | refine xIaO ?_ | refine xIaU ?_ | refine xBuild ?_ | refine xPure ?_) | ((with_reducible refine id_wR ?_); refine id_new ?_; refine xRead ?_) | ((with_reducible refine id_wA ?_); first | refine xBsl ?_ | refine xAlloc ?_) | ((with_reducible refine id_wE ?_); refine id_newS ?_; refine xStore ?_) | ((with_reducible refine id_asB ?_); first | refine xTt ?_ | refine xFf ?_))
    exact q _

/-- A new client, and the call ahead of it. -/
abbrev hNewC (W : World) (k id due node : Int) (s : ByteArray) : Heap := ((((heap0 W).push (.row [iv k, iv id, iv due, iv node, .string s] 0)).push (.map [] 0)).push (.row (clRow 102 0 (.pointer none) 0 (.slice none 0 0) (.slice none 0 0) (.slice none 0 0) 1 0) 0))
theorem awkc1 (W : World) (k id due node : Int) (s : ByteArray) : awkOk (hNewC W k id due node s) = true := by kernel_rfl
theorem awkc2 (W : World) (k id due node : Int) (s : ByteArray) : awkOk (awk (hNewC W k id due node s)) = true := by kernel_rfl
theorem awkc_x (W : World) (k id due node : Int) (s : ByteArray) : (awk (hNewC W k id due node s)).get 2 = some (.row (clRow 102 0 (.pointer none) 0 (.slice none 0 0) (.slice none 0 0) (.slice none 0 0) 1 0) 0) := by kernel_rfl
theorem awkc_c (W : World) (k id due node : Int) (s : ByteArray) : (awk (hNewC W k id due node s)).get 0 = some (.row [iv k, iv id, iv due, iv node, .string s] 0) := by kernel_rfl
theorem awkc_base (W : World) (k id due node : Int) (s : ByteArray) : (awk (hNewC W k id due node s)).base = baseOf W := by kernel_rfl
theorem awkc_next (W : World) (k id due node : Int) (s : ByteArray) : Nat.ble 3 (awk (hNewC W k id due node s)).next = true := by kernel_rfl

theorem awake_box {W : World} {k id due node : Int} {s : ByteArray} {Q : Value → Heap → Prop}
    (q : ∀ HH : Heap, At HH 2 (.row (clRow 102 0 (.pointer none) 0 (.slice none 0 0) (.slice none 0 0) (.slice none 0 0) 1 0) 0) → At HH 0 (.row [iv k, iv id, iv due, iv node, .string s] 0) → HH.base = baseOf W → awkOk HH = true → Q (.bool true) HH) : EvC 9 [] (hNewC W k id due node s) Q :=
  s_awake (awkc1 W k id due node s) (q _ ⟨awkc_x W k id due node s, Nat.le_of_ble_eq_true (awkc_next W k id due node s)⟩
    ⟨awkc_c W k id due node s, Nat.lt_of_lt_of_le Nat.zero_lt_one (Nat.le_trans (by decide) (Nat.le_of_ble_eq_true (awkc_next W k id due node s)))⟩ (awkc_base W k id due node s) (awkc2 W k id due node s))

theorem u64_range (n : Int) : 0 ≤ (IntKind.u64.wrap n).tmod 1099511627776 ∧ (IntKind.u64.wrap n).tmod 1099511627776 < 1099511627776 := by
  have h : 0 ≤ IntKind.u64.wrap n := by
    unfold IntKind.wrap
    simp [IntKind.bits, IntKind.signed]
    omega
  rw [Int.tmod_eq_emod_of_nonneg h]
  omega

theorem asks_law {W : World} {cs : List Value} {a1 : Value} {n2 : Int} (h0 : ShsOk (baseOf W) callSh cs) (h1 : ShOk (baseOf W) (.sl 2 confSh) a1) : EvC 5 [.agg ⟨cs⟩, a1, .int .i64 n2] (heap0 W) (fun v _ => v = .bool true) := by
  obtain ⟨k, id, due, node, s, rfl, hs⟩ := callSh_ok h0
  obtain ⟨len, hlen, ⟨s0, c0, rfl⟩, he0⟩ := h1.slice
  have hu := u64_range n2
  refine Ev.fn (d := k5) rfl (Nat.le_of_ble_eq_true rfl) ?_
  rw [e5]
  repeat (first | with_reducible refine atK.mk ?_ | with_reducible refine wChk_nil ?_ | with_reducible refine wChk1_nil ?_ | ((with_reducible refine id_wP ?_); first | refine xAdd ?_ | refine xSub ?_ | refine xConv ?_ | refine xMul ?_ | refine wP_max ?_ | refine xIaN ?_ | refine xIaO ?_ | refine xIaU ?_ | refine xBuild ?_ | refine xPure ?_) | ((with_reducible refine id_wR ?_); refine id_new ?_; refine xRead ?_) | ((with_reducible refine id_wA ?_); first | refine xBsl ?_ | refine xAlloc ?_) | ((with_reducible refine id_wE ?_); refine id_newS ?_; refine xStore ?_) | ((with_reducible refine id_asB ?_); first | refine xTt ?_ | refine xFf ?_))
  refine s_new (by decide) (by decide) ?_
  repeat (first | with_reducible refine atK.mk ?_ | with_reducible refine wChk_nil ?_ | with_reducible refine wChk1_nil ?_ | ((with_reducible refine id_wP ?_); first | refine xAdd ?_ | refine xSub ?_ | refine xConv ?_ | refine xMul ?_ | refine wP_max ?_ | refine xIaN ?_ | refine xIaO ?_ | refine xIaU ?_ | refine xBuild ?_ | refine xPure ?_) | ((with_reducible refine id_wR ?_); refine id_new ?_; refine xRead ?_) | ((with_reducible refine id_wA ?_); first | refine xBsl ?_ | refine xAlloc ?_) | ((with_reducible refine id_wE ?_); refine id_newS ?_; refine xStore ?_) | ((with_reducible refine id_asB ?_); first | refine xTt ?_ | refine xFf ?_))
  refine awake_box fun HH hx hc hbase hok => ?_
  have hxl := hx.lt
  have hcl := hc.lt
  repeat (first | with_reducible refine atK.mk ?_ | with_reducible refine wChk_nil ?_ | with_reducible refine wChk1_nil ?_ | ((with_reducible refine id_wP ?_); first | refine xAdd ?_ | refine xSub ?_ | refine xConv ?_ | refine xMul ?_ | refine wP_max ?_ | refine xIaN ?_ | refine xIaO ?_ | refine xIaU ?_ | refine xBuild ?_ | refine xPure ?_) | ((with_reducible refine id_wR ?_); refine id_new ?_; refine xRead ?_) | ((with_reducible refine id_wA ?_); first | refine xBsl ?_ | refine xAlloc ?_) | ((with_reducible refine id_wE ?_); refine id_newS ?_; refine xStore ?_) | ((with_reducible refine id_asB ?_); first | refine xTt ?_ | refine xFf ?_))
  refine asB_both (fun h => ?_) fun h => ?_
  · refine s_awake hok ?_
    repeat (first | with_reducible refine atK.mk ?_ | with_reducible refine wChk_nil ?_ | with_reducible refine wChk1_nil ?_ | ((with_reducible refine id_wP ?_); first | refine xAdd ?_ | refine xSub ?_ | refine xConv ?_ | refine xMul ?_ | refine wP_max ?_ | refine xIaN ?_ | refine xIaO ?_ | refine xIaU ?_ | refine xBuild ?_ | refine xPure ?_) | ((with_reducible refine id_wR ?_); refine id_new ?_; refine xRead ?_) | ((with_reducible refine id_wA ?_); first | refine xBsl ?_ | refine xAlloc ?_) | ((with_reducible refine id_wE ?_); refine id_newS ?_; refine xStore ?_) | ((with_reducible refine id_asB ?_); first | refine xTt ?_ | refine xFf ?_))
    rfl
  have hl : len ≤ 30 := by
    have h2 : (len : Int) ≤ 30 := by simpa using h
    omega
  repeat (first | with_reducible refine atK.mk ?_ | with_reducible refine wChk_nil ?_ | with_reducible refine wChk1_nil ?_ | ((with_reducible refine id_wP ?_); first | refine xAdd ?_ | refine xSub ?_ | refine xConv ?_ | refine xMul ?_ | refine wP_max ?_ | refine xIaN ?_ | refine xIaO ?_ | refine xIaU ?_ | refine xBuild ?_ | refine xPure ?_) | ((with_reducible refine id_wR ?_); refine id_new ?_; refine xRead ?_) | ((with_reducible refine id_wA ?_); first | refine xBsl ?_ | refine xAlloc ?_) | ((with_reducible refine id_wE ?_); refine id_newS ?_; refine xStore ?_) | ((with_reducible refine id_asB ?_); first | refine xTt ?_ | refine xFf ?_))
  refine asB_both (fun h => ?_) fun h => ?_
  · refine s_awake hok ?_
    repeat (first | with_reducible refine atK.mk ?_ | with_reducible refine wChk_nil ?_ | with_reducible refine wChk1_nil ?_ | ((with_reducible refine id_wP ?_); first | refine xAdd ?_ | refine xSub ?_ | refine xConv ?_ | refine xMul ?_ | refine wP_max ?_ | refine xIaN ?_ | refine xIaO ?_ | refine xIaU ?_ | refine xBuild ?_ | refine xPure ?_) | ((with_reducible refine id_wR ?_); refine id_new ?_; refine xRead ?_) | ((with_reducible refine id_wA ?_); first | refine xBsl ?_ | refine xAlloc ?_) | ((with_reducible refine id_wE ?_); refine id_newS ?_; refine xStore ?_) | ((with_reducible refine id_asB ?_); first | refine xTt ?_ | refine xFf ?_))
    rfl
  have hs2 : (s.size : Int) ≤ 256 := by simpa using h
  repeat (first | with_reducible refine atK.mk ?_ | with_reducible refine wChk_nil ?_ | with_reducible refine wChk1_nil ?_ | ((with_reducible refine id_wP ?_); first | refine xAdd ?_ | refine xSub ?_ | refine xConv ?_ | refine xMul ?_ | refine wP_max ?_ | refine xIaN ?_ | refine xIaO ?_ | refine xIaU ?_ | refine xBuild ?_ | refine xPure ?_) | ((with_reducible refine id_wR ?_); refine id_new ?_; refine xRead ?_) | ((with_reducible refine id_wA ?_); first | refine xBsl ?_ | refine xAlloc ?_) | ((with_reducible refine id_wE ?_); refine id_newS ?_; refine xStore ?_) | ((with_reducible refine id_asB ?_); first | refine xTt ?_ | refine xFf ?_))
  refine s_callA (k := k) (id := id) (due := due) (node := node) (s := s) (m := 1) hx hs2 (fun hn H1 => ?_) fun hk1 hk3 H1 c v k1 hx1 hc1 hne => ?_
  · repeat (first | with_reducible refine atK.mk ?_ | with_reducible refine wChk_nil ?_ | with_reducible refine wChk1_nil ?_ | ((with_reducible refine id_wP ?_); first | refine xAdd ?_ | refine xSub ?_ | refine xConv ?_ | refine xMul ?_ | refine wP_max ?_ | refine xIaN ?_ | refine xIaO ?_ | refine xIaU ?_ | refine xBuild ?_ | refine xPure ?_) | ((with_reducible refine id_wR ?_); refine id_new ?_; refine xRead ?_) | ((with_reducible refine id_wA ?_); first | refine xBsl ?_ | refine xAlloc ?_) | ((with_reducible refine id_wE ?_); refine id_newS ?_; refine xStore ?_) | ((with_reducible refine id_asB ?_); first | refine xTt ?_ | refine xFf ?_))
    rfl
  · have hcb1 := hc.keep k1 (by simp)
    have hxl1 := hx1.lt
    have hcl1 := hc1.lt
    have hcbl1 := hcb1.lt
    have hc0 : c ≠ 0 := hc1.ne hcb1 (by simp)
    repeat (first | with_reducible refine atK.mk ?_ | with_reducible refine wChk_nil ?_ | with_reducible refine wChk1_nil ?_ | ((with_reducible refine id_wP ?_); first | refine xAdd ?_ | refine xSub ?_ | refine xConv ?_ | refine xMul ?_ | refine wP_max ?_ | refine xIaN ?_ | refine xIaO ?_ | refine xIaU ?_ | refine xBuild ?_ | refine xPure ?_) | ((with_reducible refine id_wR ?_); refine id_new ?_; refine xRead ?_) | ((with_reducible refine id_wA ?_); first | refine xBsl ?_ | refine xAlloc ?_) | ((with_reducible refine id_wE ?_); refine id_newS ?_; refine xStore ?_) | ((with_reducible refine id_asB ?_); first | refine xTt ?_ | refine xFf ?_))
    refine asks_loop (B := baseOf W) (x := 2) (c := c) (cb := 0) (kb := H1.next) (m := 1) (k := k) (id := id) (due := due) (node := node) (s := s) (ep := 0) (chv := .slice none 0 0) (kch := .slice none 0 0) (sl := []) ?_ hl ⟨?_, ?_, ?_, ?_, .nil, .nil, by simp [newOf], rfl, by simp, by omega, by omega, hne, by omega, by omega⟩ hu ⟨hk1, hk3⟩ he0 (fun _ => rfl)
    · show H1.base = baseOf W
      rw [k1.base, hbase]
    · exact atp
    · exact atp
    · exact atp
    · exact atp

end Go.Proofs.Ytfflfehfjgkcdaa.D
