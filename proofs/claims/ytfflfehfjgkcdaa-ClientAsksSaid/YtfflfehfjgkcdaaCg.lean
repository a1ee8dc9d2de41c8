/- The client's functions: fires that are handed on. No statement of the seat is proved in this text. -/
import Derived.Test.YtfflfehfjgkcdaaEd
import Derived.Test.YtfflfehfjgkcdaaCc
set_option linter.unusedSimpArgs false
set_option linter.unusedVariables false
set_option maxRecDepth 100000
namespace Go.Proofs.Ytfflfehfjgkcdaa.D
open Go

/-- A fire. -/
structure Fi where
  seq : Int
  client : Int
  id : Int
  gen : Int
  occ : Int
  stamp : Int
  deriving DecidableEq

def Fi.c (f : Fi) : List Value := [iv f.seq, iv f.client, iv f.id, iv f.gen, iv f.occ, iv f.stamp]
theorem Fi.len (f : Fi) : f.c.length = 6 := rfl
abbrev fiL (l : List Fi) : List Value := l.flatMap Fi.c
theorem fiL_at {l : List Fi} {i : Nat} {f : Fi} (h : l[i]? = some f) : takeN ((fiL l).drop (i * 6)) 6 = some f.c := takeN_flat Fi.len h
theorem fiL_snoc (l : List Fi) (f : Fi) : fiL (l ++ [f]) = fiL l ++ f.c := by simp [fiL]

/-- A map of numbers to true. -/
def MapInts (es : List MapEntry) (S : List Int) : Prop := es.length = S.length ∧ ∀ (k : Nat) e s, es[k]? = some e → S[k]? = some s → e.key = iv s ∧ e.val = .bool true

theorem MapInts.snoc {es : List MapEntry} {S : List Int} (h : MapInts es S) (s : Int) (ck : Nat) : MapInts (es ++ [{ key := iv s, val := .bool true, born := ck }]) (S ++ [s]) := by
  refine ⟨by simp [h.1], fun k e t he ht => ?_⟩
  by_cases hk : k < es.length
  · rw [List.getElem?_append_left hk] at he
    rw [List.getElem?_append_left (by have := h.1; omega)] at ht
    exact h.2 k e t he ht
  · rw [List.getElem?_append_right (by omega)] at he
    rw [List.getElem?_append_right (by have := h.1; omega)] at ht
    have := h.1
    cases hz : k - es.length with
    | zero =>
      rw [hz] at he
      rw [show k - S.length = 0 by omega] at ht
      simp at he ht
      subst he
      subst ht
      exact ⟨rfl, rfl⟩
    | succ z => rw [hz] at he; simp at he

theorem findD_yes : ∀ {es : List MapEntry} {S : List Int} {s : Int} {j : Nat}, MapInts es S → s ∈ S → ∃ i, findD (.one .i) (iv s) es j = some (some (i, .bool true))
  | [], S, s, j, h, hs => by
    have := h.1
    cases S with
    | nil => simp at hs
    | cons => simp at this
  | e :: es, [], s, j, h, hs => by simp at hs
  | e :: es, t :: S, s, j, h, hs => by
    obtain ⟨h1, h2⟩ := h.2 0 e t rfl rfl
    obtain ⟨ek, ev, eb⟩ := e
    simp only at h1 h2
    subst h1
    subst h2
    by_cases hst : s = t
    · subst hst
      exact ⟨j, by simp [findD, keyEq, eq1]⟩
    · have hm : MapInts es S := ⟨by have := h.1; simpa using this, fun k e u h3 h4 => h.2 (k + 1) e u (by simpa using h3) (by simpa using h4)⟩
      obtain ⟨i, hi⟩ := findD_yes (j := j + 1) hm (by simpa [hst] using hs)
      refine ⟨i, ?_⟩
      have hb : (s == t) = false := by simpa using hst
      simp only [findD, keyEq, eq1, if_true, hb]
      exact hi

theorem findD_no : ∀ {es : List MapEntry} {S : List Int} {s : Int} {j : Nat}, MapInts es S → s ∉ S → findD (.one .i) (iv s) es j = some none
  | [], S, s, j, h, hs => rfl
  | e :: es, [], s, j, h, hs => by have := h.1; simp at this
  | e :: es, t :: S, s, j, h, hs => by
    obtain ⟨h1, h2⟩ := h.2 0 e t rfl rfl
    obtain ⟨ek, ev, eb⟩ := e
    simp only at h1 h2
    subst h1
    subst h2
    simp only [List.mem_cons, not_or] at hs
    have hm : MapInts es S := ⟨by have := h.1; simpa using this, fun k e u h3 h4 => h.2 (k + 1) e u (by simpa using h3) (by simpa using h4)⟩
    have hb : (s == t) = false := by simpa using hs.1
    simp only [findD, keyEq, eq1, if_true, hb]
    exact findD_no hm hs.2

theorem wR_seen {H : Heap} {m : Nat} {es : List MapEntry} {ck : Nat} {S : List Int} {s : Int} {Q : Value → Prop} (hm : At H m (.map es ck)) (hS : MapInts es S) (q : Q (.bool (decide (s ∈ S)))) : wR (.lookup (.one .i) (.bool false) false) [.map (some m), iv s] H Q := by
  by_cases h : s ∈ S
  · obtain ⟨i, hi⟩ := findD_yes (j := 0) hS h
    refine ⟨.bool true, ?_, by simpa [h] using q⟩
    simp only [readSem, keyOk, if_true, hm.get, hi]
    rfl
  · have hi := findD_no (j := 0) hS h
    refine ⟨.bool false, ?_, by simpa [h] using q⟩
    simp only [readSem, keyOk, if_true, hm.get, hi]
    rfl

theorem wE_seen {H : Heap} {m : Nat} {es : List MapEntry} {ck : Nat} {S : List Int} {s : Int} {Q : Value → Heap → Prop} (hm : At H m (.map es ck)) (hS : MapInts es S) (h : s ∉ S)
    (q : Q undef (H.set m (.map (es ++ [{ key := iv s, val := .bool true, born := ck }]) (ck + 1)))) : wE (.mupd (.one .i)) [.map (some m), iv s, .bool true] H Q := by
  have hi := findD_no (j := 0) hS h
  refine ⟨undef, _, ?_, q⟩
  simp only [effSem, keyOk, if_true, hm.get, hi]

/-- What was handed on, and what is known of it. -/
structure CC (H : Heap) (x m : Nat) (a : Int) (c1 c2 c3 c4 c5 ha : Value) (hl : List Fi) (cu : Int) : Prop where
  row : At H x (.row [iv a, c1, c2, c3, c4, c5, ha, .map (some m), iv cu] 0)
  sl : USl 6 H ha hl.length (fiL hl)
  seen : ∃ es ck, At H m (.map es ck) ∧ MapInts es (hl.map Fi.seq)

theorem CC.keep {H H' : Heap} {x m : Nat} {a cu : Int} {c1 c2 c3 c4 c5 ha : Value} {hl : List Fi} {M : List Nat} (h : CC H x m a c1 c2 c3 c4 c5 ha hl cu) (k : Keeps H H' M) (hx : x ∉ M) (hm : m ∉ M) (ha' : ∀ b ∈ blkOf ha, b ∉ M) : CC H' x m a c1 c2 c3 c4 c5 ha hl cu := by
  obtain ⟨h1, h2, es, ck, h3, h4⟩ := h
  exact ⟨h1.keep k hx, h2.keep k ha', es, ck, h3.keep k hm, h4⟩

/-- One fire comes. -/
def hand1 (a cu : Int) (hl : List Fi) (f : Fi) : List Fi := if f.client = a ∧ cu < f.seq ∧ f.seq ∉ hl.map Fi.seq then hl ++ [f] else hl

abbrev frH (x mb : Nat) (fv : Value) (n i : Int) : WFr := mkW [(0, pt x), (1, pt mb), (9, fv), (10, iv n), (11, iv i)]

theorem hand_iter {H : Heap} {x m mb n i : Nat} {a cu : Int} {c1 c2 c3 c4 c5 ha fv : Value} {hl : List Fi} {f : Fi} {ml : List Fi} {K : Kont} (h : CC H x m a c1 c2 c3 c4 c5 ha hl cu) (hf : RSl 6 H fv ml.length (fiL ml)) (hi : ml[i]? = some f) (hl1 : hl.length ≤ 1000000) (hn : n = ml.length) (hml : ml.length ≤ 1000000)
    (q : ∀ H' ha', CC H' x m a c1 c2 c3 c4 c5 ha' (hand1 a cu hl f) cu → Keeps H H' (x :: m :: blkOf ha) → (ha' = ha ∨ ∀ b ∈ blkOf ha', H.next ≤ b) → K .normal (frH x mb fv n (i + 1)) H') :
    wC (look tb) nvNone c27_2 (frH x mb fv n i) H K := by
  obtain ⟨hx, hu, es, ck, hm, hS⟩ := h
  have hxl := hx.lt
  have hml' := hm.lt
  have hil : i < ml.length := by
    rcases Nat.lt_or_ge i ml.length with h | h
    · exact h
    · rw [List.getElem?_eq_none h] at hi; cases hi
  subst hn
  have no : ∀ H', Keeps H H' [] → hand1 a cu hl f = hl → w27_11 (look tb) nvNone (pt x) (pt mb) fv (iv (ml.length : Int)) (iv (i : Int)) H' K := by
    intro H' k e
    rw [e27_11]
    repeat (first | with_reducible refine atK.mk ?_ | with_reducible refine wChk_nil ?_ | with_reducible refine wChk1_nil ?_ | ((with_reducible refine id_wP ?_); first | refine xAdd ?_ | refine xSub ?_ | refine xConv ?_ | refine xMul ?_ | refine wP_max ?_ | refine xIaN ?_ | refine xIaO ?_ | refine xIaU ?_ | refine xBuild ?_ | refine xPure ?_) | ((with_reducible refine id_wR ?_); refine id_new ?_; refine xRead ?_) | ((with_reducible refine id_wA ?_); first | refine xBsl ?_ | refine xAlloc ?_) | ((with_reducible refine id_wE ?_); refine id_newS ?_; refine xStore ?_) | ((with_reducible refine id_asB ?_); first | refine xTt ?_ | refine xFf ?_))
    refine q H' ha ?_ (k.mono (by simp)) (.inl rfl)
    rw [e]
    exact CC.keep ⟨hx, hu, es, ck, hm, hS⟩ k (by simp) (by simp) (by simp)
  rw [l27_2]
  repeat (first | with_reducible refine atK.mk ?_ | with_reducible refine wChk_nil ?_ | with_reducible refine wChk1_nil ?_ | ((with_reducible refine id_wP ?_); first | refine xAdd ?_ | refine xSub ?_ | refine xConv ?_ | refine xMul ?_ | refine wP_max ?_ | refine xIaN ?_ | refine xIaO ?_ | refine xIaU ?_ | refine xBuild ?_ | refine xPure ?_) | ((with_reducible refine id_wR ?_); refine id_new ?_; refine xRead ?_) | ((with_reducible refine id_wA ?_); first | refine xBsl ?_ | refine xAlloc ?_) | ((with_reducible refine id_wE ?_); refine id_newS ?_; refine xStore ?_) | ((with_reducible refine id_asB ?_); first | refine xTt ?_ | refine xFf ?_))
  refine hf.iadd hil (fiL_at hi) fun p hp => ?_
  refine (hp H [] Keeps.refl (by simp)).load ?_
  simp only [Fi.c]
  repeat (first | with_reducible refine atK.mk ?_ | with_reducible refine wChk_nil ?_ | with_reducible refine wChk1_nil ?_ | ((with_reducible refine id_wP ?_); first | refine xAdd ?_ | refine xSub ?_ | refine xConv ?_ | refine xMul ?_ | refine wP_max ?_ | refine xIaN ?_ | refine xIaO ?_ | refine xIaU ?_ | refine xBuild ?_ | refine xPure ?_) | ((with_reducible refine id_wR ?_); refine id_new ?_; refine xRead ?_) | ((with_reducible refine id_wA ?_); first | refine xBsl ?_ | refine xAlloc ?_) | ((with_reducible refine id_wE ?_); refine id_newS ?_; refine xStore ?_) | ((with_reducible refine id_asB ?_); first | refine xTt ?_ | refine xFf ?_))
  refine asB_both (fun h => ?_) fun h => ?_
  · have hc : f.client = a := by simpa using h
    repeat (first | with_reducible refine atK.mk ?_ | with_reducible refine wChk_nil ?_ | with_reducible refine wChk1_nil ?_ | ((with_reducible refine id_wP ?_); first | refine xAdd ?_ | refine xSub ?_ | refine xConv ?_ | refine xMul ?_ | refine wP_max ?_ | refine xIaN ?_ | refine xIaO ?_ | refine xIaU ?_ | refine xBuild ?_ | refine xPure ?_) | ((with_reducible refine id_wR ?_); refine id_new ?_; refine xRead ?_) | ((with_reducible refine id_wA ?_); first | refine xBsl ?_ | refine xAlloc ?_) | ((with_reducible refine id_wE ?_); refine id_newS ?_; refine xStore ?_) | ((with_reducible refine id_asB ?_); first | refine xTt ?_ | refine xFf ?_))
    refine asB_both (fun h => ?_) fun h => ?_
    · have hs : cu < f.seq := by simpa using h
      repeat (first | with_reducible refine atK.mk ?_ | with_reducible refine wChk_nil ?_ | with_reducible refine wChk1_nil ?_ | ((with_reducible refine id_wP ?_); first | refine xAdd ?_ | refine xSub ?_ | refine xConv ?_ | refine xMul ?_ | refine wP_max ?_ | refine xIaN ?_ | refine xIaO ?_ | refine xIaU ?_ | refine xBuild ?_ | refine xPure ?_) | ((with_reducible refine id_wR ?_); refine id_new ?_; refine xRead ?_) | ((with_reducible refine id_wA ?_); first | refine xBsl ?_ | refine xAlloc ?_) | ((with_reducible refine id_wE ?_); refine id_newS ?_; refine xStore ?_) | ((with_reducible refine id_asB ?_); first | refine xTt ?_ | refine xFf ?_))
      refine wR_seen (m := m) (by exact atp) hS ?_
      repeat (first | with_reducible refine atK.mk ?_ | with_reducible refine wChk_nil ?_ | with_reducible refine wChk1_nil ?_ | ((with_reducible refine id_wP ?_); first | refine xAdd ?_ | refine xSub ?_ | refine xConv ?_ | refine xMul ?_ | refine wP_max ?_ | refine xIaN ?_ | refine xIaO ?_ | refine xIaU ?_ | refine xBuild ?_ | refine xPure ?_) | ((with_reducible refine id_wR ?_); refine id_new ?_; refine xRead ?_) | ((with_reducible refine id_wA ?_); first | refine xBsl ?_ | refine xAlloc ?_) | ((with_reducible refine id_wE ?_); refine id_newS ?_; refine xStore ?_) | ((with_reducible refine id_asB ?_); first | refine xTt ?_ | refine xFf ?_))
      refine asB_both (fun h => ?_) fun h => ?_
      · have hn : f.seq ∉ hl.map Fi.seq := by simpa using h
        have he : hand1 a cu hl f = hl ++ [f] := by unfold hand1; rw [if_pos ⟨hc, hs, hn⟩]
        have hxm : x ≠ m := hx.ne hm (by simp)
        repeat (first | with_reducible refine atK.mk ?_ | with_reducible refine wChk_nil ?_ | with_reducible refine wChk1_nil ?_ | ((with_reducible refine id_wP ?_); first | refine xAdd ?_ | refine xSub ?_ | refine xConv ?_ | refine xMul ?_ | refine wP_max ?_ | refine xIaN ?_ | refine xIaO ?_ | refine xIaU ?_ | refine xBuild ?_ | refine xPure ?_) | ((with_reducible refine id_wR ?_); refine id_new ?_; refine xRead ?_) | ((with_reducible refine id_wA ?_); first | refine xBsl ?_ | refine xAlloc ?_) | ((with_reducible refine id_wE ?_); refine id_newS ?_; refine xStore ?_) | ((with_reducible refine id_asB ?_); first | refine xTt ?_ | refine xFf ?_))
        refine wE_seen (m := m) (by exact atp) hS hn ?_
        repeat (first | with_reducible refine atK.mk ?_ | with_reducible refine wChk_nil ?_ | with_reducible refine wChk1_nil ?_ | ((with_reducible refine id_wP ?_); first | refine xAdd ?_ | refine xSub ?_ | refine xConv ?_ | refine xMul ?_ | refine wP_max ?_ | refine xIaN ?_ | refine xIaO ?_ | refine xIaU ?_ | refine xBuild ?_ | refine xPure ?_) | ((with_reducible refine id_wR ?_); refine id_new ?_; refine xRead ?_) | ((with_reducible refine id_wA ?_); first | refine xBsl ?_ | refine xAlloc ?_) | ((with_reducible refine id_wE ?_); refine id_newS ?_; refine xStore ?_) | ((with_reducible refine id_asB ?_); first | refine xTt ?_ | refine xFf ?_))
        have hmu : ∀ b ∈ blkOf ha, b ∉ [m] := by
          intro b hb h
          simp only [List.mem_singleton] at h
          subst h
          exact hu.ne hm (by simp) hb
        refine USl.app (len := hl.length) (L := fiL hl) (hu.keep (M := [m]) (by exact kp) hmu) (srcD_new At.new.get rfl (by decide)) (by decide) rfl rfl (roomD_le (by omega)) fun v' H' hu' k' hb hnx => ?_
        have hk : Keeps H H' (m :: blkOf ha) := Keeps.comp (M := m :: blkOf ha) (by exact kp) k' (fun x hx => .inl (by simp [hx]))
        have hxu : x ∉ blkOf ha := hu.ne hx (by simp)
        have hx1 : At H' x _ := hx.keep hk (by simp only [List.mem_cons, not_or]; exact ⟨hxm, hxu⟩)
        have ho := hu'.isOne
        have hge : ∀ b ∈ blkOf v', H.next ≤ b := by
          intro b h
          rw [hb] at h
          simp only [List.mem_singleton] at h
          subst h
          simp only [next_push, next_set]
          omega
        have hxv : x ∉ blkOf v' := fun h => by have := hge x h; omega
        have hm1 : At H' m (.map (es ++ [⟨iv f.seq, .bool true, ck⟩]) (ck + 1)) := At.keep (by exact atp) k' (hu.ne hm (by simp))
        have hmx : m ≠ x := fun e => hxm e.symm
        repeat (first | with_reducible refine atK.mk ?_ | with_reducible refine wChk_nil ?_ | with_reducible refine wChk1_nil ?_ | ((with_reducible refine id_wP ?_); first | refine xAdd ?_ | refine xSub ?_ | refine xConv ?_ | refine xMul ?_ | refine wP_max ?_ | refine xIaN ?_ | refine xIaO ?_ | refine xIaU ?_ | refine xBuild ?_ | refine xPure ?_) | ((with_reducible refine id_wR ?_); refine id_new ?_; refine xRead ?_) | ((with_reducible refine id_wA ?_); first | refine xBsl ?_ | refine xAlloc ?_) | ((with_reducible refine id_wE ?_); refine id_newS ?_; refine xStore ?_) | ((with_reducible refine id_asB ?_); first | refine xTt ?_ | refine xFf ?_))
        rw [e27_11]
        repeat (first | with_reducible refine atK.mk ?_ | with_reducible refine wChk_nil ?_ | with_reducible refine wChk1_nil ?_ | ((with_reducible refine id_wP ?_); first | refine xAdd ?_ | refine xSub ?_ | refine xConv ?_ | refine xMul ?_ | refine wP_max ?_ | refine xIaN ?_ | refine xIaO ?_ | refine xIaU ?_ | refine xBuild ?_ | refine xPure ?_) | ((with_reducible refine id_wR ?_); refine id_new ?_; refine xRead ?_) | ((with_reducible refine id_wA ?_); first | refine xBsl ?_ | refine xAlloc ?_) | ((with_reducible refine id_wE ?_); refine id_newS ?_; refine xStore ?_) | ((with_reducible refine id_asB ?_); first | refine xTt ?_ | refine xFf ?_))
        rw [he] at q
        refine q _ v' ⟨?_, ?_, es ++ [⟨iv f.seq, .bool true, ck⟩], ck + 1, ?_, ?_⟩ ?_ (.inr hge)
        · exact atp
        · rw [fiL_snoc, List.length_append]
          exact hu'.keep (M := [x]) (by exact kp) (fun b h1 h2 => hxv (by simp only [List.mem_singleton] at h2; subst h2; exact h1))
        · exact atp
        · rw [List.map_append]
          exact hS.snoc f.seq ck
        · exact Keeps.comp (M := x :: m :: blkOf ha) (hk.mono (fun b h => .inl (by simp only [List.mem_cons] at h ⊢; exact .inr h))) (N := [x]) (by exact kp) (by simp)
      · have hn : f.seq ∈ hl.map Fi.seq := by simpa using h
        repeat (first | with_reducible refine atK.mk ?_ | with_reducible refine wChk_nil ?_ | with_reducible refine wChk1_nil ?_ | ((with_reducible refine id_wP ?_); first | refine xAdd ?_ | refine xSub ?_ | refine xConv ?_ | refine xMul ?_ | refine wP_max ?_ | refine xIaN ?_ | refine xIaO ?_ | refine xIaU ?_ | refine xBuild ?_ | refine xPure ?_) | ((with_reducible refine id_wR ?_); refine id_new ?_; refine xRead ?_) | ((with_reducible refine id_wA ?_); first | refine xBsl ?_ | refine xAlloc ?_) | ((with_reducible refine id_wE ?_); refine id_newS ?_; refine xStore ?_) | ((with_reducible refine id_asB ?_); first | refine xTt ?_ | refine xFf ?_))
        exact no _ (by exact kp) (by unfold hand1; rw [if_neg (fun h => h.2.2 hn)])
    · have hs : ¬ cu < f.seq := by simpa using h
      repeat (first | with_reducible refine atK.mk ?_ | with_reducible refine wChk_nil ?_ | with_reducible refine wChk1_nil ?_ | ((with_reducible refine id_wP ?_); first | refine xAdd ?_ | refine xSub ?_ | refine xConv ?_ | refine xMul ?_ | refine wP_max ?_ | refine xIaN ?_ | refine xIaO ?_ | refine xIaU ?_ | refine xBuild ?_ | refine xPure ?_) | ((with_reducible refine id_wR ?_); refine id_new ?_; refine xRead ?_) | ((with_reducible refine id_wA ?_); first | refine xBsl ?_ | refine xAlloc ?_) | ((with_reducible refine id_wE ?_); refine id_newS ?_; refine xStore ?_) | ((with_reducible refine id_asB ?_); first | refine xTt ?_ | refine xFf ?_))
      exact no _ (by exact kp) (by unfold hand1; rw [if_neg (fun h => hs h.2.1)])
  · have hc : f.client ≠ a := by simpa using h
    repeat (first | with_reducible refine atK.mk ?_ | with_reducible refine wChk_nil ?_ | with_reducible refine wChk1_nil ?_ | ((with_reducible refine id_wP ?_); first | refine xAdd ?_ | refine xSub ?_ | refine xConv ?_ | refine xMul ?_ | refine wP_max ?_ | refine xIaN ?_ | refine xIaO ?_ | refine xIaU ?_ | refine xBuild ?_ | refine xPure ?_) | ((with_reducible refine id_wR ?_); refine id_new ?_; refine xRead ?_) | ((with_reducible refine id_wA ?_); first | refine xBsl ?_ | refine xAlloc ?_) | ((with_reducible refine id_wE ?_); refine id_newS ?_; refine xStore ?_) | ((with_reducible refine id_asB ?_); first | refine xTt ?_ | refine xFf ?_))
    exact no _ (by exact kp) (by unfold hand1; rw [if_neg (fun h => hc h.1)])

end Go.Proofs.Ytfflfehfjgkcdaa.D
