/- The law ClientCursor, walked: its loops. No statement of the seat is proved in this text. -/
import Derived.Test.YtfflfehfjgkcdaaCh
import Derived.Test.YtfflfehfjgkcdaaCf
set_option linter.unusedSimpArgs false
set_option linter.unusedVariables false
set_option maxRecDepth 100000
namespace Go.Proofs.Ytfflfehfjgkcdaa.D
open Go

abbrev fiSh : List Sh := [.i .i64, .i .i64, .i .i64, .i .i64, .i .i64, .i .i64]

theorem fiSh_ok {B : Nat → Nat → Option Value} {cs : List Value} (h : ShsOk B fiSh cs) : ∃ f : Fi, cs = f.c := by
  obtain ⟨v0, r, rfl, h0, h⟩ := h.cons
  obtain ⟨v1, r, rfl, h1, h⟩ := h.cons
  obtain ⟨v2, r, rfl, h2, h⟩ := h.cons
  obtain ⟨v3, r, rfl, h3, h⟩ := h.cons
  obtain ⟨v4, r, rfl, h4, h⟩ := h.cons
  obtain ⟨v5, r, rfl, h5, h⟩ := h.cons
  obtain rfl := h.nil
  obtain ⟨n0, rfl, _⟩ := h0.int
  obtain ⟨n1, rfl, _⟩ := h1.int
  obtain ⟨n2, rfl, _⟩ := h2.int
  obtain ⟨n3, rfl, _⟩ := h3.int
  obtain ⟨n4, rfl, _⟩ := h4.int
  obtain ⟨n5, rfl, _⟩ := h5.int
  exact ⟨⟨n0, n1, n2, n3, n4, n5⟩, rfl⟩

/-- Fires are numbered: 2, 5, 8, ... -/
def Numbered (al : List Fi) : Prop := ∀ (k : Nat) f, al[k]? = some f → f.seq = 3 * k + 2

abbrev fr4 (a1 : Value) (x : Nat) (v a0 : Value) (n i : Int) : WFr := mkW [(1, a1), (5, pt x), (7, v), (48, a0), (49, iv n), (50, iv i)]

/-- The first loop: all fires, numbered. -/
theorem cursor_all {H : Heap} {x len : Nat} {a0 a1 : Value} {K : Kont} (hlen : len ≤ 40) (ha : ∃ a cap, a0 = .slice a len cap)
    (ha0 : ∀ i, i < len → ∃ b o cap cs, a0 = .slice (some ⟨b, o, some 0⟩) len cap ∧ rdBase H.base b (o + i * 6) 6 = some cs ∧ ShsOk H.base fiSh cs)
    (q : ∀ H' v al, Keeps H H' [] → USl 6 H' v len (fiL al) → al.length = len → Numbered al → (∀ b ∈ blkOf v, H.next ≤ b) → K (.exit 0) (mkW [(1, a1), (5, pt x), (7, v)]) H') :
    wLoop (look tb) nvNone c4_9 [1, 5, 7, 48, 49, 50] (fr4 a1 x (.slice none 0 0) a0 len 0) H K := by
  refine wLoop_range len (fun i wf H' => ∃ v al, wf = fr4 a1 x v a0 len i ∧ Keeps H H' [] ∧ USl 6 H' v i (fiL al) ∧ al.length = i ∧ Numbered al ∧ (∀ b ∈ blkOf v, H.next ≤ b)) ?_ ?_ ⟨_, [], rfl, Keeps.refl, .nil, rfl, by intro k f h; simp at h, by simp [blkOf]⟩
  · rintro i wf H' hi ⟨v, al, rfl, hk, hu, hal, hnum, hge⟩ K' hK'
    obtain ⟨b, o, cap, cs, rfl, hrd, hcs⟩ := ha0 i hi
    obtain ⟨f, rfl⟩ := fiSh_ok hcs
    rw [l4_9]
    repeat (first | with_reducible refine atK.mk ?_ | with_reducible refine wChk_nil ?_ | with_reducible refine wChk1_nil ?_ | ((with_reducible refine id_wP ?_); first | refine xAdd ?_ | refine xSub ?_ | refine xConv ?_ | refine xMul ?_ | refine wP_max ?_ | refine xIaN ?_ | refine xIaO ?_ | refine xIaU ?_ | refine xBuild ?_ | refine xPure ?_) | ((with_reducible refine id_wR ?_); refine id_new ?_; refine xRead ?_) | ((with_reducible refine id_wA ?_); first | refine xBsl ?_ | refine xAlloc ?_) | ((with_reducible refine id_wE ?_); refine id_newS ?_; refine xStore ?_) | ((with_reducible refine id_asB ?_); first | refine xTt ?_ | refine xFf ?_))
    refine wR_old (v := .agg ⟨f.c⟩) ?_ ?_
    · rw [hk.base]; exact ldb_agg hrd
    simp only [Fi.c]
    repeat (first | with_reducible refine atK.mk ?_ | with_reducible refine wChk_nil ?_ | with_reducible refine wChk1_nil ?_ | ((with_reducible refine id_wP ?_); first | refine xAdd ?_ | refine xSub ?_ | refine xConv ?_ | refine xMul ?_ | refine wP_max ?_ | refine xIaN ?_ | refine xIaO ?_ | refine xIaU ?_ | refine xBuild ?_ | refine xPure ?_) | ((with_reducible refine id_wR ?_); refine id_new ?_; refine xRead ?_) | ((with_reducible refine id_wA ?_); first | refine xBsl ?_ | refine xAlloc ?_) | ((with_reducible refine id_wE ?_); refine id_newS ?_; refine xStore ?_) | ((with_reducible refine id_asB ?_); first | refine xTt ?_ | refine xFf ?_))
    refine USl.app (len := i) (L := fiL al) (hu.keep (M := [H'.next]) (by exact kp) (fun b hb h => by
      simp only [List.mem_singleton] at h
      have := hu.lt b hb
      omega)) (srcD_new At.new.get rfl (by decide)) (by decide) rfl rfl (roomD_le (by omega)) fun v' H2 hu' k' hb hn => ?_
    repeat (first | with_reducible refine atK.mk ?_ | with_reducible refine wChk_nil ?_ | with_reducible refine wChk1_nil ?_ | ((with_reducible refine id_wP ?_); first | refine xAdd ?_ | refine xSub ?_ | refine xConv ?_ | refine xMul ?_ | refine wP_max ?_ | refine xIaN ?_ | refine xIaO ?_ | refine xIaU ?_ | refine xBuild ?_ | refine xPure ?_) | ((with_reducible refine id_wR ?_); refine id_new ?_; refine xRead ?_) | ((with_reducible refine id_wA ?_); first | refine xBsl ?_ | refine xAlloc ?_) | ((with_reducible refine id_wE ?_); refine id_newS ?_; refine xStore ?_) | ((with_reducible refine id_asB ?_); first | refine xTt ?_ | refine xFf ?_))
    have hnx := hk.next
    refine hK' _ H2 ⟨v', al ++ [⟨3 * (i : Int) + 2, IntKind.i64.wrap (100 + IntKind.i64.wrap ↑(BitVec.ofInt IntKind.i64.bits f.client &&& BitVec.ofInt IntKind.i64.bits 1).toNat), f.id, f.gen, f.occ, f.stamp⟩], rfl, ?_, ?_, ?_, ?_, ?_⟩
    · refine Keeps.comp (M := []) (Keeps.comp hk (N := []) (by exact kp) (by simp)) k' fun b hb => .inr (hge b hb)
    · rw [fiL_snoc]
      exact hu'
    · simp [hal]
    · intro k g hg
      by_cases hki : k < al.length
      · rw [List.getElem?_append_left hki] at hg
        exact hnum k g hg
      · rw [List.getElem?_append_right (by omega)] at hg
        cases hz : k - al.length with
        | zero =>
          rw [hz] at hg
          simp only [List.getElem?_cons_zero, Option.some.injEq] at hg
          subst hg
          show (3 * (i : Int) + 2) = 3 * k + 2
          have : k = i := by omega
          rw [this]
        | succ z => rw [hz] at hg; simp at hg
    · intro c hc
      rw [hb] at hc
      simp only [List.mem_singleton] at hc
      subst hc
      simp only [next_push, next_set]
      omega
  · rintro wf H' ⟨v, al, rfl, hk, hu, hal, hnum, hge⟩ K'
    rw [l4_9]
    repeat (first | with_reducible refine atK.mk ?_ | with_reducible refine wChk_nil ?_ | with_reducible refine wChk1_nil ?_ | ((with_reducible refine id_wP ?_); first | refine xAdd ?_ | refine xSub ?_ | refine xConv ?_ | refine xMul ?_ | refine wP_max ?_ | refine xIaN ?_ | refine xIaO ?_ | refine xIaU ?_ | refine xBuild ?_ | refine xPure ?_) | ((with_reducible refine id_wR ?_); refine id_new ?_; refine xRead ?_) | ((with_reducible refine id_wA ?_); first | refine xBsl ?_ | refine xAlloc ?_) | ((with_reducible refine id_wE ?_); refine id_newS ?_; refine xStore ?_) | ((with_reducible refine id_asB ?_); first | refine xTt ?_ | refine xFf ?_))
    exact q H' v al hk hu hal hnum hge

/-- Which fires a message brings. -/
def fit (upto fr c : Int) (f : Fi) : Bool := decide (f.seq ≤ upto) && ((decide (fr < f.seq) || (c.tmod 3 == 0)) && decide (f.client = 100))

abbrev msgF (upto : Int) (fv : Value) : List Value := [iv 14, iv 100, iv 0, iv 0, iv 0, iv upto, iv 0, iv 0, iv 0, iv 0, .bool false, iv 0, iv 0, iv 0, iv 0, iv 0, iv 0, iv 0, iv 0, iv 0, .string ⟨⟨[]⟩⟩, iv 0, iv 0, iv 0, iv 0, .slice none 0 0, fv, iv 0]

abbrev fr4c (x : Nat) (v : Value) (c fr upto : Int) (mb : Nat) (a1 : Value) (n1 i1 : Int) (n k : Int) : WFr := mkW [(5, pt x), (7, v), (11, .int .u8 c), (12, iv fr), (13, iv upto), (14, pt mb), (69, a1), (70, iv n1), (71, iv i1), (87, v), (88, iv n), (89, iv k)]

/-- The third loop: the fires that a message brings. -/
theorem cursor_msg {H : Heap} {x mb : Nat} {v a1 : Value} {c fr upto sq n1 i1 : Int} {al : List Fi} {K : Kont} (hv : RSl 6 H v al.length (fiL al)) (hal : al.length ≤ 40) (hmb : At H mb (.row (msgF sq (.slice none 0 0)) 0)) (hmv : mb ∉ newOf v)
    (q : ∀ H' fv, Keeps H H' [mb] → At H' mb (.row (msgF sq fv) 0) → USl 6 H' fv (al.filter (fit upto fr c)).length (fiL (al.filter (fit upto fr c))) → (∀ b ∈ blkOf fv, H.next ≤ b) →
      K (.exit 4) (mkW [(5, pt x), (7, v), (14, pt mb), (69, a1), (70, iv n1), (71, iv i1)]) H') :
    wLoop (look tb) nvNone c4_36 [5, 7, 11, 12, 13, 14, 69, 70, 71, 87, 88, 89] (fr4c x v c fr upto mb a1 n1 i1 al.length 0) H K := by
  refine wLoop_range al.length (fun k wf H' => ∃ fv, wf = fr4c x v c fr upto mb a1 n1 i1 al.length k ∧ Keeps H H' [mb] ∧ At H' mb (.row (msgF sq fv) 0) ∧ USl 6 H' fv ((al.take k).filter (fit upto fr c)).length (fiL ((al.take k).filter (fit upto fr c))) ∧ (∀ b ∈ blkOf fv, H.next ≤ b))
    ?_ ?_ ⟨_, rfl, Keeps.refl', hmb, .nil, by simp [blkOf]⟩
  · rintro k wf H' hi ⟨fv, rfl, hk, hm, hu, hge⟩ K' hK'
    have hmbl := hm.lt
    have hnx := hk.next
    obtain ⟨f, hf⟩ : ∃ f, al[k]? = some f := ⟨_, List.getElem?_eq_getElem hi⟩
    have htk : al.take (k + 1) = al.take k ++ [f] := by rw [List.take_add_one, hf]; rfl
    have hlen : ((al.take k).filter (fit upto fr c)).length ≤ 40 := by
      have h1 := List.length_filter_le (fit upto fr c) (al.take k)
      have h2 : (al.take k).length ≤ al.length := by simp; omega
      omega
    have no : ∀ H2, Keeps H' H2 [] → fit upto fr c f = false → w4_44 (look tb) nvNone (pt x) v (.int .u8 c) (iv fr) (iv upto) (pt mb) a1 (iv n1) (iv i1) v (iv (al.length : Int)) (iv (k : Int)) H2 (kSeq K' K) := by
      intro H2 k2 e
      rw [e4_44]
      repeat (first | with_reducible refine atK.mk ?_ | with_reducible refine wChk_nil ?_ | with_reducible refine wChk1_nil ?_ | ((with_reducible refine id_wP ?_); first | refine xAdd ?_ | refine xSub ?_ | refine xConv ?_ | refine xMul ?_ | refine wP_max ?_ | refine xIaN ?_ | refine xIaO ?_ | refine xIaU ?_ | refine xBuild ?_ | refine xPure ?_) | ((with_reducible refine id_wR ?_); refine id_new ?_; refine xRead ?_) | ((with_reducible refine id_wA ?_); first | refine xBsl ?_ | refine xAlloc ?_) | ((with_reducible refine id_wE ?_); refine id_newS ?_; refine xStore ?_) | ((with_reducible refine id_asB ?_); first | refine xTt ?_ | refine xFf ?_))
      refine hK' _ H2 ⟨fv, rfl, hk.comp0 k2, hm.keep0 k2, ?_, hge⟩
      rw [htk, List.filter_append]
      simp only [List.filter_cons, e, Bool.false_eq_true, if_false, List.filter_nil, List.append_nil]
      exact hu.keep k2 (by simp)
    have yes : fit upto fr c f = true → ∀ fb, fb = H'.next → ∀ H2, Keeps H' H2 [] → At H2 fb (.row f.c 0) → ∀ (hmb2 : mb ≠ fb),
        (wP (.fadd 26) [pt mb] fun x100 => wR (.load 1 false) [x100] H2 fun x101 => wR (.load 6 true) [pt fb] H2 fun x102 =>
          wA (.bslice [iv 0, iv 0, iv 0, iv 0, iv 0, iv 0] [(0, 6)] 6 1) [x102] H2 fun x103 H104 =>
          wE (.app 6 48) [x101, x103] H104 fun x105 H106 =>
          wP (.fadd 26) [pt mb] fun x107 =>
          wE (.store 1) [x107, x105] H106 fun x108 H109 =>
          atK (w4_44 (look tb) nvNone (pt x) v (.int .u8 c) (iv fr) (iv upto) (pt mb) a1 (iv n1) (iv i1) v (iv (al.length : Int)) (iv (k : Int)) H109 (kSeq K' K))) := by
      intro e fb hfb H2 k2 hfb2 hne
      have hm2 := hm.keep0 k2
      have hu2 := hu.keep k2 (by simp)
      have hmbl2 := hm2.lt
      have hfbl2 := hfb2.lt
      have hmu : mb ∉ blkOf fv := hu.ne hm (by simp)
      repeat (first | with_reducible refine atK.mk ?_ | with_reducible refine wChk_nil ?_ | with_reducible refine wChk1_nil ?_ | ((with_reducible refine id_wP ?_); first | refine xAdd ?_ | refine xSub ?_ | refine xConv ?_ | refine xMul ?_ | refine wP_max ?_ | refine xIaN ?_ | refine xIaO ?_ | refine xIaU ?_ | refine xBuild ?_ | refine xPure ?_) | ((with_reducible refine id_wR ?_); refine id_new ?_; refine xRead ?_) | ((with_reducible refine id_wA ?_); first | refine xBsl ?_ | refine xAlloc ?_) | ((with_reducible refine id_wE ?_); refine id_newS ?_; refine xStore ?_) | ((with_reducible refine id_asB ?_); first | refine xTt ?_ | refine xFf ?_))
      refine USl.app (hu2.keep (M := []) (by exact kp) (by simp)) (srcD_new (cs := f.c) (l := f.c) At.new.get rfl (by decide)) (by decide) rfl rfl (roomD_le (by omega)) fun v' H3 hu' k' hb hn => ?_
      have k3 : Keeps H' H3 (blkOf fv) := Keeps.comp (Ha := H2.push _) (Keeps.push' (k2.mono (by simp))) k' fun b hb => .inl hb
      have hm3 : At H3 mb _ := hm.keep k3 hmu
      have ho := hu'.isOne
      have hge' : ∀ b ∈ blkOf v', H2.next ≤ b := by
        intro b h
        rw [hb] at h
        simp only [List.mem_singleton] at h
        subst h
        simp only [next_push]
        omega
      have hmv' : mb ∉ blkOf v' := fun h => by have := hge' mb h; omega
      have hn2 := k2.next
      repeat (first | with_reducible refine atK.mk ?_ | with_reducible refine wChk_nil ?_ | with_reducible refine wChk1_nil ?_ | ((with_reducible refine id_wP ?_); first | refine xAdd ?_ | refine xSub ?_ | refine xConv ?_ | refine xMul ?_ | refine wP_max ?_ | refine xIaN ?_ | refine xIaO ?_ | refine xIaU ?_ | refine xBuild ?_ | refine xPure ?_) | ((with_reducible refine id_wR ?_); refine id_new ?_; refine xRead ?_) | ((with_reducible refine id_wA ?_); first | refine xBsl ?_ | refine xAlloc ?_) | ((with_reducible refine id_wE ?_); refine id_newS ?_; refine xStore ?_) | ((with_reducible refine id_asB ?_); first | refine xTt ?_ | refine xFf ?_))
      rw [e4_44]
      repeat (first | with_reducible refine atK.mk ?_ | with_reducible refine wChk_nil ?_ | with_reducible refine wChk1_nil ?_ | ((with_reducible refine id_wP ?_); first | refine xAdd ?_ | refine xSub ?_ | refine xConv ?_ | refine xMul ?_ | refine wP_max ?_ | refine xIaN ?_ | refine xIaO ?_ | refine xIaU ?_ | refine xBuild ?_ | refine xPure ?_) | ((with_reducible refine id_wR ?_); refine id_new ?_; refine xRead ?_) | ((with_reducible refine id_wA ?_); first | refine xBsl ?_ | refine xAlloc ?_) | ((with_reducible refine id_wE ?_); refine id_newS ?_; refine xStore ?_) | ((with_reducible refine id_asB ?_); first | refine xTt ?_ | refine xFf ?_))
      refine hK' _ _ ⟨v', rfl, ?_, by exact atp, ?_, fun b hb => by have := hge' b hb; omega⟩
      · refine Keeps.comp (M := [mb]) (hk.comp k3 fun b hb => .inr (hge b hb)) (N := [mb]) (by exact kp) (by simp)
      · rw [htk, List.filter_append]
        simp only [List.filter_cons, e, if_true, List.filter_nil]
        rw [fiL_snoc, List.length_append]
        exact hu'.keep (M := [mb]) (by exact kp) (fun b h1 h2 => hmv' (by simp only [List.mem_singleton] at h2; subst h2; exact h1))
    rw [l4_36]
    repeat (first | with_reducible refine atK.mk ?_ | with_reducible refine wChk_nil ?_ | with_reducible refine wChk1_nil ?_ | ((with_reducible refine id_wP ?_); first | refine xAdd ?_ | refine xSub ?_ | refine xConv ?_ | refine xMul ?_ | refine wP_max ?_ | refine xIaN ?_ | refine xIaO ?_ | refine xIaU ?_ | refine xBuild ?_ | refine xPure ?_) | ((with_reducible refine id_wR ?_); refine id_new ?_; refine xRead ?_) | ((with_reducible refine id_wA ?_); first | refine xBsl ?_ | refine xAlloc ?_) | ((with_reducible refine id_wE ?_); refine id_newS ?_; refine xStore ?_) | ((with_reducible refine id_asB ?_); first | refine xTt ?_ | refine xFf ?_))
    refine hv.iadd hi (fiL_at hf) fun p hp => ?_
    refine (hp H' [mb] hk (by intro b hb h; simp only [List.mem_singleton] at h; subst h; exact hmv hb)).load ?_
    simp only [Fi.c]
    repeat (first | with_reducible refine atK.mk ?_ | with_reducible refine wChk_nil ?_ | with_reducible refine wChk1_nil ?_ | ((with_reducible refine id_wP ?_); first | refine xAdd ?_ | refine xSub ?_ | refine xConv ?_ | refine xMul ?_ | refine wP_max ?_ | refine xIaN ?_ | refine xIaO ?_ | refine xIaU ?_ | refine xBuild ?_ | refine xPure ?_) | ((with_reducible refine id_wR ?_); refine id_new ?_; refine xRead ?_) | ((with_reducible refine id_wA ?_); first | refine xBsl ?_ | refine xAlloc ?_) | ((with_reducible refine id_wE ?_); refine id_newS ?_; refine xStore ?_) | ((with_reducible refine id_asB ?_); first | refine xTt ?_ | refine xFf ?_))
    refine asB_both (fun h => ?_) fun h => ?_
    · have h1 : f.seq ≤ upto := by simpa using h
      repeat (first | with_reducible refine atK.mk ?_ | with_reducible refine wChk_nil ?_ | with_reducible refine wChk1_nil ?_ | ((with_reducible refine id_wP ?_); first | refine xAdd ?_ | refine xSub ?_ | refine xConv ?_ | refine xMul ?_ | refine wP_max ?_ | refine xIaN ?_ | refine xIaO ?_ | refine xIaU ?_ | refine xBuild ?_ | refine xPure ?_) | ((with_reducible refine id_wR ?_); refine id_new ?_; refine xRead ?_) | ((with_reducible refine id_wA ?_); first | refine xBsl ?_ | refine xAlloc ?_) | ((with_reducible refine id_wE ?_); refine id_newS ?_; refine xStore ?_) | ((with_reducible refine id_asB ?_); first | refine xTt ?_ | refine xFf ?_))
      refine asB_both (fun h => ?_) fun h => ?_
      · have h2 : fr < f.seq := by simpa using h
        repeat (first | with_reducible refine atK.mk ?_ | with_reducible refine wChk_nil ?_ | with_reducible refine wChk1_nil ?_ | ((with_reducible refine id_wP ?_); first | refine xAdd ?_ | refine xSub ?_ | refine xConv ?_ | refine xMul ?_ | refine wP_max ?_ | refine xIaN ?_ | refine xIaO ?_ | refine xIaU ?_ | refine xBuild ?_ | refine xPure ?_) | ((with_reducible refine id_wR ?_); refine id_new ?_; refine xRead ?_) | ((with_reducible refine id_wA ?_); first | refine xBsl ?_ | refine xAlloc ?_) | ((with_reducible refine id_wE ?_); refine id_newS ?_; refine xStore ?_) | ((with_reducible refine id_asB ?_); first | refine xTt ?_ | refine xFf ?_))
        refine asB_both (fun h => ?_) fun h => ?_
        · have h3 : f.client = 100 := by simpa using h
          exact yes (by simp [fit, h1, h2, h3]) H'.next rfl _ (by exact kp) (by have z : At ((H'.push (.row [iv 0, iv 0, iv 0, iv 0, iv 0, iv 0] 0)).set H'.next (.row f.c 0)) H'.next (.row f.c 0) := (by exact atp); exact z) (by omega)
        · have h3 : ¬ f.client = 100 := by simpa using h
          repeat (first | with_reducible refine atK.mk ?_ | with_reducible refine wChk_nil ?_ | with_reducible refine wChk1_nil ?_ | ((with_reducible refine id_wP ?_); first | refine xAdd ?_ | refine xSub ?_ | refine xConv ?_ | refine xMul ?_ | refine wP_max ?_ | refine xIaN ?_ | refine xIaO ?_ | refine xIaU ?_ | refine xBuild ?_ | refine xPure ?_) | ((with_reducible refine id_wR ?_); refine id_new ?_; refine xRead ?_) | ((with_reducible refine id_wA ?_); first | refine xBsl ?_ | refine xAlloc ?_) | ((with_reducible refine id_wE ?_); refine id_newS ?_; refine xStore ?_) | ((with_reducible refine id_asB ?_); first | refine xTt ?_ | refine xFf ?_))
          exact no _ (by exact kp) (by simp [fit, h3])
      · have h2 : ¬ fr < f.seq := by simpa using h
        repeat (first | with_reducible refine atK.mk ?_ | with_reducible refine wChk_nil ?_ | with_reducible refine wChk1_nil ?_ | ((with_reducible refine id_wP ?_); first | refine xAdd ?_ | refine xSub ?_ | refine xConv ?_ | refine xMul ?_ | refine wP_max ?_ | refine xIaN ?_ | refine xIaO ?_ | refine xIaU ?_ | refine xBuild ?_ | refine xPure ?_) | ((with_reducible refine id_wR ?_); refine id_new ?_; refine xRead ?_) | ((with_reducible refine id_wA ?_); first | refine xBsl ?_ | refine xAlloc ?_) | ((with_reducible refine id_wE ?_); refine id_newS ?_; refine xStore ?_) | ((with_reducible refine id_asB ?_); first | refine xTt ?_ | refine xFf ?_))
        refine asB_both (fun h => ?_) fun h => ?_
        · have h4 : (c.tmod 3 == 0) = true := h
          repeat (first | with_reducible refine atK.mk ?_ | with_reducible refine wChk_nil ?_ | with_reducible refine wChk1_nil ?_ | ((with_reducible refine id_wP ?_); first | refine xAdd ?_ | refine xSub ?_ | refine xConv ?_ | refine xMul ?_ | refine wP_max ?_ | refine xIaN ?_ | refine xIaO ?_ | refine xIaU ?_ | refine xBuild ?_ | refine xPure ?_) | ((with_reducible refine id_wR ?_); refine id_new ?_; refine xRead ?_) | ((with_reducible refine id_wA ?_); first | refine xBsl ?_ | refine xAlloc ?_) | ((with_reducible refine id_wE ?_); refine id_newS ?_; refine xStore ?_) | ((with_reducible refine id_asB ?_); first | refine xTt ?_ | refine xFf ?_))
          refine asB_both (fun h => ?_) fun h => ?_
          · have h3 : f.client = 100 := by simpa using h
            exact yes (by simp only [fit, h4, h1, h3, decide_true, Bool.or_true, Bool.and_true]) H'.next rfl _ (by exact kp) (by have z : At ((H'.push (.row [iv 0, iv 0, iv 0, iv 0, iv 0, iv 0] 0)).set H'.next (.row f.c 0)) H'.next (.row f.c 0) := (by exact atp); exact z) (by omega)
          · have h3 : ¬ f.client = 100 := by simpa using h
            repeat (first | with_reducible refine atK.mk ?_ | with_reducible refine wChk_nil ?_ | with_reducible refine wChk1_nil ?_ | ((with_reducible refine id_wP ?_); first | refine xAdd ?_ | refine xSub ?_ | refine xConv ?_ | refine xMul ?_ | refine wP_max ?_ | refine xIaN ?_ | refine xIaO ?_ | refine xIaU ?_ | refine xBuild ?_ | refine xPure ?_) | ((with_reducible refine id_wR ?_); refine id_new ?_; refine xRead ?_) | ((with_reducible refine id_wA ?_); first | refine xBsl ?_ | refine xAlloc ?_) | ((with_reducible refine id_wE ?_); refine id_newS ?_; refine xStore ?_) | ((with_reducible refine id_asB ?_); first | refine xTt ?_ | refine xFf ?_))
            exact no _ (by exact kp) (by simp [fit, h3])
        · have h4 : (c.tmod 3 == 0) = false := h
          repeat (first | with_reducible refine atK.mk ?_ | with_reducible refine wChk_nil ?_ | with_reducible refine wChk1_nil ?_ | ((with_reducible refine id_wP ?_); first | refine xAdd ?_ | refine xSub ?_ | refine xConv ?_ | refine xMul ?_ | refine wP_max ?_ | refine xIaN ?_ | refine xIaO ?_ | refine xIaU ?_ | refine xBuild ?_ | refine xPure ?_) | ((with_reducible refine id_wR ?_); refine id_new ?_; refine xRead ?_) | ((with_reducible refine id_wA ?_); first | refine xBsl ?_ | refine xAlloc ?_) | ((with_reducible refine id_wE ?_); refine id_newS ?_; refine xStore ?_) | ((with_reducible refine id_asB ?_); first | refine xTt ?_ | refine xFf ?_))
          exact no _ (by exact kp) (by simp only [fit, h4, h2, decide_false, Bool.or_false, Bool.false_and, Bool.and_false])
    · have h1 : ¬ f.seq ≤ upto := by simpa using h
      repeat (first | with_reducible refine atK.mk ?_ | with_reducible refine wChk_nil ?_ | with_reducible refine wChk1_nil ?_ | ((with_reducible refine id_wP ?_); first | refine xAdd ?_ | refine xSub ?_ | refine xConv ?_ | refine xMul ?_ | refine wP_max ?_ | refine xIaN ?_ | refine xIaO ?_ | refine xIaU ?_ | refine xBuild ?_ | refine xPure ?_) | ((with_reducible refine id_wR ?_); refine id_new ?_; refine xRead ?_) | ((with_reducible refine id_wA ?_); first | refine xBsl ?_ | refine xAlloc ?_) | ((with_reducible refine id_wE ?_); refine id_newS ?_; refine xStore ?_) | ((with_reducible refine id_asB ?_); first | refine xTt ?_ | refine xFf ?_))
      exact no _ (by exact kp) (by simp [fit, h1])
  · rintro wf H' ⟨fv, rfl, hk, hm, hu, hge⟩ K'
    rw [List.take_length] at hu
    rw [l4_36]
    repeat (first | with_reducible refine atK.mk ?_ | with_reducible refine wChk_nil ?_ | with_reducible refine wChk1_nil ?_ | ((with_reducible refine id_wP ?_); first | refine xAdd ?_ | refine xSub ?_ | refine xConv ?_ | refine xMul ?_ | refine wP_max ?_ | refine xIaN ?_ | refine xIaO ?_ | refine xIaU ?_ | refine xBuild ?_ | refine xPure ?_) | ((with_reducible refine id_wR ?_); refine id_new ?_; refine xRead ?_) | ((with_reducible refine id_wA ?_); first | refine xBsl ?_ | refine xAlloc ?_) | ((with_reducible refine id_wE ?_); refine id_newS ?_; refine xStore ?_) | ((with_reducible refine id_asB ?_); first | refine xTt ?_ | refine xFf ?_))
    exact q H' fv hk hm hu hge

end Go.Proofs.Ytfflfehfjgkcdaa.D
