/- The client's functions: any message, without a call. No statement of the seat is proved in this text. -/
import Derived.Test.YtfflfehfjgkcdaaCn
set_option linter.unusedSimpArgs false
set_option linter.unusedVariables false
set_option maxRecDepth 100000
namespace Go.Proofs.Ytfflfehfjgkcdaa.D
open Go

/-- A chain comes. -/
theorem s_takeConf {H : Heap} {x e : Nat} {ep : Int} {c0 c1 c2 chv c5 c6 c7 c8 ch fi now : Value} {g : Mg} {sl : List Se} {Q : Value → Heap → Prop} (hx : At H x (.row [c0, c1, c2, iv ep, chv, c5, c6, c7, c8] e)) (hg : g.m0 = 2)
    (hch : RSl 3 H ch sl.length (seL sl)) (hd : newOf ch = []) (hf : oneC fi = true) (hlen : sl.length ≤ 1000000)
    (q0 : (rightB g.m24 sl = false ∨ g.m24 ≤ ep) → ∀ H', Keeps H H' [] → Q (.slice none 0 0) H')
    (q1 : rightB g.m24 sl = true → ep < g.m24 → ∀ H' v', At H' x (.row [c0, c1, c2, iv g.m24, v', c5, c6, c7, c8] e) → RSl 3 H' v' sl.length (seL sl) → (∀ b ∈ newOf v', H.next ≤ b) → Keeps H H' [x] →
      (c2 = .pointer none ∧ Q (.slice none 0 0) H') ∨ (∃ c, c2 = pt c ∧ EvC 22 [pt x] H' Q)) : EvC 11 [pt x, .agg ⟨g.c ch fi⟩, now] H Q := by
  obtain ⟨g0, g1, g2, g3, g4, g5, g6, g7, g8, g9, flag, g11, g12, g13, g14, g15, g16, g17, g18, g19, txt, g21, g22, g23, g24, g27⟩ := g
  simp only at hg q0 q1
  subst hg
  have hxl := hx.lt
  have hoc := hch.isOne
  refine Ev.fn (d := k11) rfl (Nat.le_of_ble_eq_true rfl) ?_
  rw [e11]
  simp only [Mg.c]
  repeat (first | with_reducible refine atK.mk ?_ | with_reducible refine wChk_nil ?_ | with_reducible refine wChk1_nil ?_ | ((with_reducible refine id_wP ?_); first | refine xAdd ?_ | refine xSub ?_ | refine xConv ?_ | refine xMul ?_ | refine wP_max ?_ | refine xIaN ?_ | refine xIaO ?_ | refine xIaU ?_ | refine xBuild ?_ | refine xPure ?_) | ((with_reducible refine id_wR ?_); refine id_new ?_; refine xRead ?_) | ((with_reducible refine id_wA ?_); first | refine xBsl ?_ | refine xAlloc ?_) | ((with_reducible refine id_wE ?_); refine id_newS ?_; refine xStore ?_) | ((with_reducible refine id_asB ?_); first | refine xTt ?_ | refine xFf ?_))
  refine s_right (sl := sl) (hch.keep (M := []) (by exact kp) (by simp)) fun H1 k1 => ?_
  have hx1 : At H1 x _ := At.keep0 (H := H.push _) (by exact atp) k1
  have hm1 := (At.new (H := H) (X := .row (Mg.c ⟨2, g1, g2, g3, g4, g5, g6, g7, g8, g9, flag, g11, g12, g13, g14, g15, g16, g17, g18, g19, txt, g21, g22, g23, g24, g27⟩ ch fi) 0)).keep0 k1
  have kk1 : Keeps H H1 [] := (Keeps.push' Keeps.refl').comp0 k1
  simp only [Mg.c] at hm1
  have hml := hm1.lt
  have hxl1 := hx1.lt
  repeat (first | with_reducible refine atK.mk ?_ | with_reducible refine wChk_nil ?_ | with_reducible refine wChk1_nil ?_ | ((with_reducible refine id_wP ?_); first | refine xAdd ?_ | refine xSub ?_ | refine xConv ?_ | refine xMul ?_ | refine wP_max ?_ | refine xIaN ?_ | refine xIaO ?_ | refine xIaU ?_ | refine xBuild ?_ | refine xPure ?_) | ((with_reducible refine id_wR ?_); refine id_new ?_; refine xRead ?_) | ((with_reducible refine id_wA ?_); first | refine xBsl ?_ | refine xAlloc ?_) | ((with_reducible refine id_wE ?_); refine id_newS ?_; refine xStore ?_) | ((with_reducible refine id_asB ?_); first | refine xTt ?_ | refine xFf ?_))
  refine asB_both (fun h => ?_) fun h => ?_
  · have hr : rightB g24 sl = false := by simpa using h
    repeat (first | with_reducible refine atK.mk ?_ | with_reducible refine wChk_nil ?_ | with_reducible refine wChk1_nil ?_ | ((with_reducible refine id_wP ?_); first | refine xAdd ?_ | refine xSub ?_ | refine xConv ?_ | refine xMul ?_ | refine wP_max ?_ | refine xIaN ?_ | refine xIaO ?_ | refine xIaU ?_ | refine xBuild ?_ | refine xPure ?_) | ((with_reducible refine id_wR ?_); refine id_new ?_; refine xRead ?_) | ((with_reducible refine id_wA ?_); first | refine xBsl ?_ | refine xAlloc ?_) | ((with_reducible refine id_wE ?_); refine id_newS ?_; refine xStore ?_) | ((with_reducible refine id_asB ?_); first | refine xTt ?_ | refine xFf ?_))
    exact q0 (.inl hr) _ kk1
  have hr : rightB g24 sl = true := by simpa using h
  repeat (first | with_reducible refine atK.mk ?_ | with_reducible refine wChk_nil ?_ | with_reducible refine wChk1_nil ?_ | ((with_reducible refine id_wP ?_); first | refine xAdd ?_ | refine xSub ?_ | refine xConv ?_ | refine xMul ?_ | refine wP_max ?_ | refine xIaN ?_ | refine xIaO ?_ | refine xIaU ?_ | refine xBuild ?_ | refine xPure ?_) | ((with_reducible refine id_wR ?_); refine id_new ?_; refine xRead ?_) | ((with_reducible refine id_wA ?_); first | refine xBsl ?_ | refine xAlloc ?_) | ((with_reducible refine id_wE ?_); refine id_newS ?_; refine xStore ?_) | ((with_reducible refine id_asB ?_); first | refine xTt ?_ | refine xFf ?_))
  refine asB_both (fun h => ?_) fun h => ?_
  · have hle : g24 ≤ ep := by simpa using h
    repeat (first | with_reducible refine atK.mk ?_ | with_reducible refine wChk_nil ?_ | with_reducible refine wChk1_nil ?_ | ((with_reducible refine id_wP ?_); first | refine xAdd ?_ | refine xSub ?_ | refine xConv ?_ | refine xMul ?_ | refine wP_max ?_ | refine xIaN ?_ | refine xIaO ?_ | refine xIaU ?_ | refine xBuild ?_ | refine xPure ?_) | ((with_reducible refine id_wR ?_); refine id_new ?_; refine xRead ?_) | ((with_reducible refine id_wA ?_); first | refine xBsl ?_ | refine xAlloc ?_) | ((with_reducible refine id_wE ?_); refine id_newS ?_; refine xStore ?_) | ((with_reducible refine id_asB ?_); first | refine xTt ?_ | refine xFf ?_))
    exact q0 (.inr hle) _ kk1
  have hlt : ep < g24 := by
    have : ¬ g24 ≤ ep := by simpa using h
    omega
  repeat (first | with_reducible refine atK.mk ?_ | with_reducible refine wChk_nil ?_ | with_reducible refine wChk1_nil ?_ | ((with_reducible refine id_wP ?_); first | refine xAdd ?_ | refine xSub ?_ | refine xConv ?_ | refine xMul ?_ | refine wP_max ?_ | refine xIaN ?_ | refine xIaO ?_ | refine xIaU ?_ | refine xBuild ?_ | refine xPure ?_) | ((with_reducible refine id_wR ?_); refine id_new ?_; refine xRead ?_) | ((with_reducible refine id_wA ?_); first | refine xBsl ?_ | refine xAlloc ?_) | ((with_reducible refine id_wE ?_); refine id_newS ?_; refine xStore ?_) | ((with_reducible refine id_asB ?_); first | refine xTt ?_ | refine xFf ?_))
  refine s_clone3 (hch.keep kk1 (by simp)) hlen fun H2 v' k2 hv' hge => ?_
  have hx2 := hx1.keep0 k2
  have hm2 := hm1.keep0 k2
  have hxl2 := hx2.lt
  have hn1 := kk1.next
  have ho' := hv'.isOne
  have ho2 : [iv g24, v'].all oneC = true := by
    rw [List.all_cons, List.all_cons, ho']
    rfl
  have hn2 := k2.next
  have hxv : x ∉ newOf v' := fun hb => by have := hge x hb; omega
  have hxm : H.next ≠ x := by omega
  repeat (first | with_reducible refine atK.mk ?_ | with_reducible refine wChk_nil ?_ | with_reducible refine wChk1_nil ?_ | ((with_reducible refine id_wP ?_); first | refine xAdd ?_ | refine xSub ?_ | refine xConv ?_ | refine xMul ?_ | refine wP_max ?_ | refine xIaN ?_ | refine xIaO ?_ | refine xIaU ?_ | refine xBuild ?_ | refine xPure ?_) | ((with_reducible refine id_wR ?_); refine id_new ?_; refine xRead ?_) | ((with_reducible refine id_wA ?_); first | refine xBsl ?_ | refine xAlloc ?_) | ((with_reducible refine id_wE ?_); refine id_newS ?_; refine xStore ?_) | ((with_reducible refine id_asB ?_); first | refine xTt ?_ | refine xFf ?_))
  have e1 : vcells (iv g24) = some [iv g24] := rfl
  refine wP_build (l := [iv g24, v']) (by simp only [fillD, vcells_one ho', e1, splice, List.drop_succ_cons, List.drop_zero, List.drop_nil, List.length_cons, List.length_nil, List.cons_append, List.nil_append, Nat.reduceAdd, Nat.reduceLeDiff, Nat.le_refl, ↓reduceIte]) ?_
  repeat (first | with_reducible refine atK.mk ?_ | with_reducible refine wChk_nil ?_ | with_reducible refine wChk1_nil ?_ | ((with_reducible refine id_wP ?_); first | refine xAdd ?_ | refine xSub ?_ | refine xConv ?_ | refine xMul ?_ | refine wP_max ?_ | refine xIaN ?_ | refine xIaO ?_ | refine xIaU ?_ | refine xBuild ?_ | refine xPure ?_) | ((with_reducible refine id_wR ?_); refine id_new ?_; refine xRead ?_) | ((with_reducible refine id_wA ?_); first | refine xBsl ?_ | refine xAlloc ?_) | ((with_reducible refine id_wE ?_); refine id_newS ?_; refine xStore ?_) | ((with_reducible refine id_asB ?_); first | refine xTt ?_ | refine xFf ?_))
  refine ⟨⟨?_, by simp [veq, veq1]⟩, ?_⟩
  · simp only [readSem, aadd, Heap.cells, hm2.get]
    rfl
  have hfin : At (H2.set x (.row [c0, c1, c2, iv g24, v', c5, c6, c7, c8] e)) x (.row [c0, c1, c2, iv g24, v', c5, c6, c7, c8] e) := by exact atp
  have hkf : Keeps H (H2.set x (.row [c0, c1, c2, iv g24, v', c5, c6, c7, c8] e)) [x] := Keeps.set' ((kk1.comp0 k2).mono (by simp)) (.inl (by simp))
  have hvf : RSl 3 (H2.set x (.row [c0, c1, c2, iv g24, v', c5, c6, c7, c8] e)) v' sl.length (seL sl) := hv'.keep (M := [x]) (by exact kp) (fun b h1 h2 => hxv (by simp only [List.mem_singleton] at h2; subst h2; exact h1))
  rcases q1 hr hlt _ v' hfin hvf (fun b hb => by have := hge b hb; omega) hkf with ⟨rfl, hq⟩ | ⟨c, rfl, hq⟩
  · repeat (first | with_reducible refine atK.mk ?_ | with_reducible refine wChk_nil ?_ | with_reducible refine wChk1_nil ?_ | ((with_reducible refine id_wP ?_); first | refine xAdd ?_ | refine xSub ?_ | refine xConv ?_ | refine xMul ?_ | refine wP_max ?_ | refine xIaN ?_ | refine xIaO ?_ | refine xIaU ?_ | refine xBuild ?_ | refine xPure ?_) | ((with_reducible refine id_wR ?_); refine id_new ?_; refine xRead ?_) | ((with_reducible refine id_wA ?_); first | refine xBsl ?_ | refine xAlloc ?_) | ((with_reducible refine id_wE ?_); refine id_newS ?_; refine xStore ?_) | ((with_reducible refine id_asB ?_); first | refine xTt ?_ | refine xFf ?_))
    rw [e11_21]
    repeat (first | with_reducible refine atK.mk ?_ | with_reducible refine wChk_nil ?_ | with_reducible refine wChk1_nil ?_ | ((with_reducible refine id_wP ?_); first | refine xAdd ?_ | refine xSub ?_ | refine xConv ?_ | refine xMul ?_ | refine wP_max ?_ | refine xIaN ?_ | refine xIaO ?_ | refine xIaU ?_ | refine xBuild ?_ | refine xPure ?_) | ((with_reducible refine id_wR ?_); refine id_new ?_; refine xRead ?_) | ((with_reducible refine id_wA ?_); first | refine xBsl ?_ | refine xAlloc ?_) | ((with_reducible refine id_wE ?_); refine id_newS ?_; refine xStore ?_) | ((with_reducible refine id_asB ?_); first | refine xTt ?_ | refine xFf ?_))
    exact hq
  · repeat (first | with_reducible refine atK.mk ?_ | with_reducible refine wChk_nil ?_ | with_reducible refine wChk1_nil ?_ | ((with_reducible refine id_wP ?_); first | refine xAdd ?_ | refine xSub ?_ | refine xConv ?_ | refine xMul ?_ | refine wP_max ?_ | refine xIaN ?_ | refine xIaO ?_ | refine xIaU ?_ | refine xBuild ?_ | refine xPure ?_) | ((with_reducible refine id_wR ?_); refine id_new ?_; refine xRead ?_) | ((with_reducible refine id_wA ?_); first | refine xBsl ?_ | refine xAlloc ?_) | ((with_reducible refine id_wE ?_); refine id_newS ?_; refine xStore ?_) | ((with_reducible refine id_asB ?_); first | refine xTt ?_ | refine xFf ?_))
    exact hq.mono fun v H' h => ⟨h⟩

/-- What holds of a client without a call. -/
structure QI (H : Heap) (x m : Nat) (ha chv : Value) (hl : List Fi) (ep cu : Int) (sl : List Se) (n : Nat) : Prop where
  cc : CC H x m 100 (iv 0) (.pointer none) (iv ep) chv (.slice none 0 0) ha hl cu
  ch : RSl 3 H chv sl.length (seL sl)
  dis : ∀ b ∈ newOf chv, b ≠ x ∧ b ≠ m ∧ b ∉ blkOf ha
  own : ∀ f ∈ hl, f.client = 100
  hlen : hl.length ≤ n
  slen : sl.length ≤ 40

theorem QI.keep {H H' : Heap} {x m n n' : Nat} {ha chv : Value} {hl : List Fi} {ep cu : Int} {sl : List Se} (h : QI H x m ha chv hl ep cu sl n) (k : Keeps H H' []) (hn : n ≤ n') : QI H' x m ha chv hl ep cu sl n' :=
  ⟨h.cc.keep k (by simp) (by simp) (by simp), h.ch.keep k (by simp), h.dis, h.own, Nat.le_trans h.hlen hn, h.slen⟩

theorem handM_own (a cu : Int) : ∀ (l hl : List Fi), (∀ f ∈ hl, f.client = a) → ∀ f ∈ handM a cu hl l, f.client = a
  | [], hl, h => h
  | g :: l, hl, h => handM_own a cu l _ (by
      intro f hf
      unfold hand1 at hf
      split at hf
      · rename_i hc
        rcases List.mem_append.1 hf with hf | hf
        · exact h f hf
        · simp only [List.mem_singleton] at hf
          subst hf
          exact hc.1
      · exact h f hf)

theorem s_takeQ {H : Heap} {x m n : Nat} {ha chv ch fi now : Value} {hl : List Fi} {ep cu : Int} {sl0 sl : List Se} {ml : List Fi} {g : Mg} {Q : Value → Heap → Prop} (h : QI H x m ha chv hl ep cu sl0 n)
    (hch : RSl 3 H ch sl.length (seL sl)) (hd : newOf ch = []) (hfi : RSl 6 H fi ml.length (fiL ml)) (hd2 : newOf fi = []) (hsl : sl.length ≤ 40) (hml : ml.length ≤ 40) (hn : n ≤ 10000)
    (q : ∀ H' ha' chv' hl' ep' cu' sl', QI H' x m ha' chv' hl' ep' cu' sl' (n + 40) → H'.base = H.base → H.next ≤ H'.next → Q (.slice none 0 0) H') : EvC 11 [pt x, .agg ⟨g.c ch fi⟩, now] H Q := by
  have hx := h.cc.row
  have hxl := hx.lt
  have hoc := hch.isOne
  have hof := hfi.isOne
  have hlen0 := h.hlen
  have stay : ∀ H', Keeps H H' [] → Q (.slice none 0 0) H' := fun H' k => q H' ha chv hl ep cu sl0 (h.keep k (by omega)) k.base k.next
  by_cases h2 : g.m0 = 2
  · refine s_takeConf hx h2 hch hd hof (by omega) (fun _ H' k => stay H' k) fun hr hlt H' v' hx' hv' hge hk => .inl ⟨rfl, ?_⟩
    refine q H' ha v' hl g.m24 cu sl ⟨?_, hv', ?_, h.own, by omega, hsl⟩ hk.base hk.next
    · obtain ⟨es, ck, hm1, hm2⟩ := h.cc.seen
      exact ⟨hx', h.cc.sl.keep hk (fun b hb h2 => by simp only [List.mem_singleton] at h2; subst h2; exact h.cc.sl.ne hx (by simp) hb), es, ck, hm1.keep hk (by simp only [List.mem_singleton]; exact hm1.ne hx (by simp)), hm2⟩
    · intro b hb
      have hb1 := hge b hb
      obtain ⟨es, ck, hm1, hm2⟩ := h.cc.seen
      have hml := hm1.lt
      exact ⟨by omega, by omega, fun h3 => by have := h.cc.sl.lt b h3; omega⟩
  · by_cases h14 : g.m0 = 14
    · have hw : g.c ch fi = Mg.c { g with m0 := 14 } ch fi := by simp only [Mg.c, h14]
      rw [hw]
      refine s_takeFires h.cc hfi (by rw [hd2]; simp) (by omega) (by omega) fun H' ha' hc' hk ho => ?_
      have hlm := handM_len 100 cu ml hl
      refine q H' ha' chv _ ep _ sl0 ⟨hc', h.ch.keep hk (fun b hb => by
        obtain ⟨h1, h2, h3⟩ := h.dis b hb
        simp only [List.mem_cons, not_or]
        exact ⟨h1, h2, h3⟩), ?_, handM_own 100 cu ml hl h.own, by omega, h.slen⟩ hk.base hk.next
      intro b hb
      obtain ⟨h1, h2, h3⟩ := h.dis b hb
      refine ⟨h1, h2, ?_⟩
      rcases ho with rfl | ho
      · exact h3
      · intro h4
        have := ho b h4
        have := h.ch.lt b hb
        omega
    · obtain ⟨g0, g1, g2, g3, g4, g5, g6, g7, g8, g9, flag, g11, g12, g13, g14, g15, g16, g17, g18, g19, txt, g21, g22, g23, g24, g27⟩ := g
      simp only at h2 h14
      refine Ev.fn (d := k11) rfl (Nat.le_of_ble_eq_true rfl) ?_
      rw [e11]
      simp only [Mg.c]
      repeat (first | with_reducible refine atK.mk ?_ | with_reducible refine wChk_nil ?_ | with_reducible refine wChk1_nil ?_ | ((with_reducible refine id_wP ?_); first | refine xAdd ?_ | refine xSub ?_ | refine xConv ?_ | refine xMul ?_ | refine wP_max ?_ | refine xIaN ?_ | refine xIaO ?_ | refine xIaU ?_ | refine xBuild ?_ | refine xPure ?_) | ((with_reducible refine id_wR ?_); refine id_new ?_; refine xRead ?_) | ((with_reducible refine id_wA ?_); first | refine xBsl ?_ | refine xAlloc ?_) | ((with_reducible refine id_wE ?_); refine id_newS ?_; refine xStore ?_) | ((with_reducible refine id_asB ?_); first | refine xTt ?_ | refine xFf ?_))
      have ans : w11_18 (look tb) nvNone (pt x) (pt H.next) (iv g0) (.bool true) (H.push (.row (Mg.c ⟨g0, g1, g2, g3, g4, g5, g6, g7, g8, g9, flag, g11, g12, g13, g14, g15, g16, g17, g18, g19, txt, g21, g22, g23, g24, g27⟩ ch fi) 0)) Q := by
        rw [e11_18]
        refine asB_tt rfl ?_
        refine s_answers0 hx.push ?_
        refine asB_ff rfl ?_
        refine atK.mk ?_
        rw [e11_21]
        refine atK.mk ?_
        exact stay _ (by exact kp)
      refine asB_both (fun h => ?_) fun h => ?_
      · repeat (first | with_reducible refine atK.mk ?_ | with_reducible refine wChk_nil ?_ | with_reducible refine wChk1_nil ?_ | ((with_reducible refine id_wP ?_); first | refine xAdd ?_ | refine xSub ?_ | refine xConv ?_ | refine xMul ?_ | refine wP_max ?_ | refine xIaN ?_ | refine xIaO ?_ | refine xIaU ?_ | refine xBuild ?_ | refine xPure ?_) | ((with_reducible refine id_wR ?_); refine id_new ?_; refine xRead ?_) | ((with_reducible refine id_wA ?_); first | refine xBsl ?_ | refine xAlloc ?_) | ((with_reducible refine id_wE ?_); refine id_newS ?_; refine xStore ?_) | ((with_reducible refine id_asB ?_); first | refine xTt ?_ | refine xFf ?_))
        exact ans
      · repeat (first | with_reducible refine atK.mk ?_ | with_reducible refine wChk_nil ?_ | with_reducible refine wChk1_nil ?_ | ((with_reducible refine id_wP ?_); first | refine xAdd ?_ | refine xSub ?_ | refine xConv ?_ | refine xMul ?_ | refine wP_max ?_ | refine xIaN ?_ | refine xIaO ?_ | refine xIaU ?_ | refine xBuild ?_ | refine xPure ?_) | ((with_reducible refine id_wR ?_); refine id_new ?_; refine xRead ?_) | ((with_reducible refine id_wA ?_); first | refine xBsl ?_ | refine xAlloc ?_) | ((with_reducible refine id_wE ?_); refine id_newS ?_; refine xStore ?_) | ((with_reducible refine id_asB ?_); first | refine xTt ?_ | refine xFf ?_))
        rw [e11_18]
        refine asB_both (fun h => ?_) fun h => ?_
        · refine s_answers0 hx.push ?_
          refine asB_ff rfl ?_
          refine atK.mk ?_
          rw [e11_21]
          refine atK.mk ?_
          exact stay _ (by exact kp)
        · repeat (first | with_reducible refine atK.mk ?_ | with_reducible refine wChk_nil ?_ | with_reducible refine wChk1_nil ?_ | ((with_reducible refine id_wP ?_); first | refine xAdd ?_ | refine xSub ?_ | refine xConv ?_ | refine xMul ?_ | refine wP_max ?_ | refine xIaN ?_ | refine xIaO ?_ | refine xIaU ?_ | refine xBuild ?_ | refine xPure ?_) | ((with_reducible refine id_wR ?_); refine id_new ?_; refine xRead ?_) | ((with_reducible refine id_wA ?_); first | refine xBsl ?_ | refine xAlloc ?_) | ((with_reducible refine id_wE ?_); refine id_newS ?_; refine xStore ?_) | ((with_reducible refine id_asB ?_); first | refine xTt ?_ | refine xFf ?_))
          rw [e11_21]
          refine atK.mk ?_
          exact stay _ (by exact kp)

/-- A tick without a call. -/
theorem s_tickQ {H : Heap} {x e : Nat} {a ep cu : Int} {c1 chv c5 c6 c7 now : Value} {sl : List Se} {Q : Value → Heap → Prop} (hx : At H x (.row [iv a, c1, .pointer none, iv ep, chv, c5, c6, c7, iv cu] e)) (hr : RSl 3 H chv sl.length (seL sl)) (hd : x ∉ newOf chv) (hlen : sl.length ≤ 1000000)
    (q : ∀ H' v, Keeps H H' [] → RSl 28 H' v (polls a cu sl).length (msL (polls a cu sl)) → Q v H') : EvC 17 [pt x, now] H Q := by
  have hxl := hx.lt
  refine Ev.fn (d := k17) rfl (Nat.le_of_ble_eq_true rfl) ?_
  rw [e17]
  repeat (first | with_reducible refine atK.mk ?_ | with_reducible refine wChk_nil ?_ | with_reducible refine wChk1_nil ?_ | ((with_reducible refine id_wP ?_); first | refine xAdd ?_ | refine xSub ?_ | refine xConv ?_ | refine xMul ?_ | refine wP_max ?_ | refine xIaN ?_ | refine xIaO ?_ | refine xIaU ?_ | refine xBuild ?_ | refine xPure ?_) | ((with_reducible refine id_wR ?_); refine id_new ?_; refine xRead ?_) | ((with_reducible refine id_wA ?_); first | refine xBsl ?_ | refine xAlloc ?_) | ((with_reducible refine id_wE ?_); refine id_newS ?_; refine xStore ?_) | ((with_reducible refine id_asB ?_); first | refine xTt ?_ | refine xFf ?_))
  exact s_polls (pre := []) hx hr hd hlen (.inl ⟨rfl, rfl⟩) q

theorem s_few {H : Heap} {g : Mg} {ch fi : Value} {n1 n2 : Nat} {L1 L2 : List Value} {Q : Value → Heap → Prop} (hch : RSl 3 H ch n1 L1) (hfi : RSl 6 H fi n2 L2)
    (q : ∀ H' b, Keeps H H' [] → (b = true → n1 ≤ 40 ∧ n2 ≤ 40) → Q (.bool b) H') : EvC 20 [.agg ⟨g.c ch fi⟩] H Q := by
  obtain ⟨g0, g1, g2, g3, g4, g5, g6, g7, g8, g9, flag, g11, g12, g13, g14, g15, g16, g17, g18, g19, txt, g21, g22, g23, g24, g27⟩ := g
  refine Ev.fn (d := k20) rfl (Nat.le_of_ble_eq_true rfl) ?_
  rw [e20]
  simp only [Mg.c]
  repeat (first | with_reducible refine atK.mk ?_ | with_reducible refine wChk_nil ?_ | with_reducible refine wChk1_nil ?_ | ((with_reducible refine id_wP ?_); first | refine xAdd ?_ | refine xSub ?_ | refine xConv ?_ | refine xMul ?_ | refine wP_max ?_ | refine xIaN ?_ | refine xIaO ?_ | refine xIaU ?_ | refine xBuild ?_ | refine xPure ?_) | ((with_reducible refine id_wR ?_); refine id_new ?_; refine xRead ?_) | ((with_reducible refine id_wA ?_); first | refine xBsl ?_ | refine xAlloc ?_) | ((with_reducible refine id_wE ?_); refine id_newS ?_; refine xStore ?_) | ((with_reducible refine id_asB ?_); first | refine xTt ?_ | refine xFf ?_))
  refine asB_both (fun h => ?_) fun h => ?_
  · repeat (first | with_reducible refine atK.mk ?_ | with_reducible refine wChk_nil ?_ | with_reducible refine wChk1_nil ?_ | ((with_reducible refine id_wP ?_); first | refine xAdd ?_ | refine xSub ?_ | refine xConv ?_ | refine xMul ?_ | refine wP_max ?_ | refine xIaN ?_ | refine xIaO ?_ | refine xIaU ?_ | refine xBuild ?_ | refine xPure ?_) | ((with_reducible refine id_wR ?_); refine id_new ?_; refine xRead ?_) | ((with_reducible refine id_wA ?_); first | refine xBsl ?_ | refine xAlloc ?_) | ((with_reducible refine id_wE ?_); refine id_newS ?_; refine xStore ?_) | ((with_reducible refine id_asB ?_); first | refine xTt ?_ | refine xFf ?_))
    refine hch.lenS ?_
    repeat (first | with_reducible refine atK.mk ?_ | with_reducible refine wChk_nil ?_ | with_reducible refine wChk1_nil ?_ | ((with_reducible refine id_wP ?_); first | refine xAdd ?_ | refine xSub ?_ | refine xConv ?_ | refine xMul ?_ | refine wP_max ?_ | refine xIaN ?_ | refine xIaO ?_ | refine xIaU ?_ | refine xBuild ?_ | refine xPure ?_) | ((with_reducible refine id_wR ?_); refine id_new ?_; refine xRead ?_) | ((with_reducible refine id_wA ?_); first | refine xBsl ?_ | refine xAlloc ?_) | ((with_reducible refine id_wE ?_); refine id_newS ?_; refine xStore ?_) | ((with_reducible refine id_asB ?_); first | refine xTt ?_ | refine xFf ?_))
    refine asB_both (fun h => ?_) fun h => ?_
    · have h1 : n1 ≤ 40 := by
        have : (n1 : Int) ≤ 40 := by simpa using h
        omega
      repeat (first | with_reducible refine atK.mk ?_ | with_reducible refine wChk_nil ?_ | with_reducible refine wChk1_nil ?_ | ((with_reducible refine id_wP ?_); first | refine xAdd ?_ | refine xSub ?_ | refine xConv ?_ | refine xMul ?_ | refine wP_max ?_ | refine xIaN ?_ | refine xIaO ?_ | refine xIaU ?_ | refine xBuild ?_ | refine xPure ?_) | ((with_reducible refine id_wR ?_); refine id_new ?_; refine xRead ?_) | ((with_reducible refine id_wA ?_); first | refine xBsl ?_ | refine xAlloc ?_) | ((with_reducible refine id_wE ?_); refine id_newS ?_; refine xStore ?_) | ((with_reducible refine id_asB ?_); first | refine xTt ?_ | refine xFf ?_))
      refine hfi.lenS ?_
      repeat (first | with_reducible refine atK.mk ?_ | with_reducible refine wChk_nil ?_ | with_reducible refine wChk1_nil ?_ | ((with_reducible refine id_wP ?_); first | refine xAdd ?_ | refine xSub ?_ | refine xConv ?_ | refine xMul ?_ | refine wP_max ?_ | refine xIaN ?_ | refine xIaO ?_ | refine xIaU ?_ | refine xBuild ?_ | refine xPure ?_) | ((with_reducible refine id_wR ?_); refine id_new ?_; refine xRead ?_) | ((with_reducible refine id_wA ?_); first | refine xBsl ?_ | refine xAlloc ?_) | ((with_reducible refine id_wE ?_); refine id_newS ?_; refine xStore ?_) | ((with_reducible refine id_asB ?_); first | refine xTt ?_ | refine xFf ?_))
      refine q _ _ (by exact kp) fun h => ⟨h1, ?_⟩
      have : (n2 : Int) ≤ 40 := by simpa using h
      omega
    · repeat (first | with_reducible refine atK.mk ?_ | with_reducible refine wChk_nil ?_ | with_reducible refine wChk1_nil ?_ | ((with_reducible refine id_wP ?_); first | refine xAdd ?_ | refine xSub ?_ | refine xConv ?_ | refine xMul ?_ | refine wP_max ?_ | refine xIaN ?_ | refine xIaO ?_ | refine xIaU ?_ | refine xBuild ?_ | refine xPure ?_) | ((with_reducible refine id_wR ?_); refine id_new ?_; refine xRead ?_) | ((with_reducible refine id_wA ?_); first | refine xBsl ?_ | refine xAlloc ?_) | ((with_reducible refine id_wE ?_); refine id_newS ?_; refine xStore ?_) | ((with_reducible refine id_asB ?_); first | refine xTt ?_ | refine xFf ?_))
      exact q _ _ (by exact kp) (by simp)
  · repeat (first | with_reducible refine atK.mk ?_ | with_reducible refine wChk_nil ?_ | with_reducible refine wChk1_nil ?_ | ((with_reducible refine id_wP ?_); first | refine xAdd ?_ | refine xSub ?_ | refine xConv ?_ | refine xMul ?_ | refine wP_max ?_ | refine xIaN ?_ | refine xIaO ?_ | refine xIaU ?_ | refine xBuild ?_ | refine xPure ?_) | ((with_reducible refine id_wR ?_); refine id_new ?_; refine xRead ?_) | ((with_reducible refine id_wA ?_); first | refine xBsl ?_ | refine xAlloc ?_) | ((with_reducible refine id_wE ?_); refine id_newS ?_; refine xStore ?_) | ((with_reducible refine id_asB ?_); first | refine xTt ?_ | refine xFf ?_))
    exact q _ _ (by exact kp) (by simp)

end Go.Proofs.Ytfflfehfjgkcdaa.D
