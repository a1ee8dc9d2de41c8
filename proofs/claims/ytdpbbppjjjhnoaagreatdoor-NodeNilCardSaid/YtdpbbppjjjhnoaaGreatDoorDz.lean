/- The abstract machine "D": what holds behind a run of it, without counting its steps. No statement of the seat is proved in this text. -/
import Derived.Test.YtdpbbppjjjhnoaaGreatDoorDx
set_option linter.unusedSimpArgs false
set_option linter.unusedVariables false
namespace Go.Proofs.YtdpbbppjjjhnoaaGreatDoor.D
open Go

/-! ### More steps do no harm -/

def CfLe (cf cf' : CallF) : Prop := ∀ f vs H r, cf f vs H = some r → cf' f vs H = some r

theorem CfLe.refl (cf : CallF) : CfLe cf cf := fun _ _ _ _ h => h

section
variable {cf cf' : CallF}

theorem insD_mono (hc : CfLe cf cf') {ins : Ins} {vs : List Value} {H : Heap} {r : Value × Heap} (h : insD cf ins vs H = some r) : insD cf' ins vs H = some r := by
  cases ins with
  | pure p => exact h
  | read q c => exact h
  | alloc a => exact h
  | eff e => exact h
  | call f => exact hc _ _ _ _ h
  | callv =>
    unfold insD at h ⊢
    simp only at h ⊢
    split at h
    · exact hc _ _ _ _ h
    · cases h

theorem stepD_mono (hc : CfLe cf cf') {o : DOper} {g : Nat → Option Value} {H : Heap} {r : Value × Heap} (h : stepD cf o g H = some r) : stepD cf' o g H = some r := by
  unfold stepD at h ⊢
  split at h
  · exact insD_mono hc h
  · exact h
  · cases h

theorem runOps_mono (hc : CfLe cf cf') : ∀ {ds : List DOper} {fr : Fr} {H : Heap} {r : Fr × Heap}, runOps cf ds fr H = some r → runOps cf' ds fr H = some r
  | [], fr, H, r, h => h
  | o :: ds, fr, H, r, h => by
    simp only [runOps] at h ⊢
    split at h
    · rename_i v H' hs
      rw [stepD_mono hc hs]
      exact runOps_mono hc h
    · cases h

theorem traceOps_mono (hc : CfLe cf cf') : ∀ {ds : List DOper} {fr : Fr} {H : Heap} {r : List (Fr × Heap × Value) × Fr × Heap}, traceOps cf ds fr H = some r → traceOps cf' ds fr H = some r
  | [], fr, H, r, h => h
  | o :: ds, fr, H, r, h => by
    simp only [traceOps] at h ⊢
    split at h
    · rename_i v H' hs
      rw [stepD_mono hc hs]
      simp only
      split at h
      · rename_i l fr2 H2 ht
        rw [traceOps_mono hc ht]
        exact h
      · cases h
    · cases h

theorem regionD_mono (hc : CfLe cf cf') {ds : List DOper} {flag : Bool} {fr : Fr} {H : Heap} {r : Fr × Heap} (h : regionD cf ds flag fr H = some r) : regionD cf' ds flag fr H = some r := by
  unfold regionD at h ⊢
  split at h
  · exact runOps_mono hc h
  · split at h
    · rename_i l fr' H' ht
      rw [traceOps_mono hc ht]
      exact h
    · cases h

theorem loopN_mono {b b' : Fr → Heap → Option (Ex × Fr × Heap)} (hb : ∀ fr H r, b fr H = some r → b' fr H = some r) {keep : Option (List Nat)} : ∀ {k k' : Nat} {fr : Fr} {H : Heap} {r : Ex × Fr × Heap}, k ≤ k' → loopN b keep k fr H = some r → loopN b' keep k' fr H = some r
  | 0, _, _, _, _, _, h => by cases h
  | k + 1, 0, _, _, _, hk, h => by omega
  | k + 1, k' + 1, fr, H, r, hk, h => by
    simp only [loopN] at h ⊢
    cases hq : b (keepO keep fr) H with
    | none => rw [hq] at h; cases h
    | some q =>
      rw [hq] at h
      rw [hb _ _ _ hq]
      obtain ⟨e, fr', H'⟩ := q
      cases e with
      | normal => exact loopN_mono hb (Nat.le_of_succ_le_succ hk) h
      | exit i => exact h
      | ret => exact h

theorem runC_mono (hc : CfLe cf cf') {k k' : Nat} (hk : k ≤ k') : ∀ (c : C) {fr : Fr} {H : Heap} {r : Ex × Fr × Heap}, runC cf k c fr H = some r → runC cf' k' c fr H = some r
  | .skip, fr, H, r, h => h
  | .ret, fr, H, r, h => h
  | .exit id, fr, H, r, h => h
  | .region ds flag, fr, H, r, h => by
    simp only [runC] at h ⊢
    split at h
    · rename_i fr' H' hr
      rw [regionD_mono hc hr]
      exact h
    · cases h
  | .seq a b, fr, H, r, h => by
    simp only [runC] at h ⊢
    cases hq : runC cf k a fr H with
    | none => rw [hq] at h; cases h
    | some q =>
      rw [hq] at h
      rw [runC_mono hc hk a hq]
      obtain ⟨e, fr', H'⟩ := q
      cases e with
      | normal => exact runC_mono hc hk b h
      | exit i => exact h
      | ret => exact h
  | .cond c a b, fr, H, r, h => by
    simp only [runC] at h ⊢
    split at h
    · split at h
      · exact runC_mono hc hk a h
      · exact runC_mono hc hk b h
    · cases h
  | .block id a, fr, H, r, h => by
    simp only [runC] at h ⊢
    cases hq : runC cf k a fr H with
    | none => rw [hq] at h; cases h
    | some q =>
      rw [hq] at h
      rw [runC_mono hc hk a hq]
      exact h
  | .keep l a, fr, H, r, h => by
    simp only [runC] at h ⊢
    exact runC_mono hc hk a h
  | .loop keep a, fr, H, r, h => by
    simp only [runC] at h ⊢
    exact loopN_mono (fun fr H r h => runC_mono hc hk a h) hk h

theorem runFn_mono (hc : CfLe cf cf') {k k' : Nat} (hk : k ≤ k') {d : DFn} {vs : List Value} {H : Heap} {r : Value × Heap} (h : runFn cf k d vs H = some r) : runFn cf' k' d vs H = some r := by
  unfold runFn at h ⊢
  split
  · rename_i hl
    rw [if_pos hl] at h
    cases hq : runC cf k d.body (argsFr vs 0 .leaf) H with
    | none => rw [hq] at h; cases h
    | some q =>
      rw [hq] at h
      rw [runC_mono hc hk _ hq]
      exact h
  · rename_i hl
    rw [if_neg hl] at h
    cases h
end

theorem callM_mono {tb : Nat → Option DFn} {nv : CallF} : ∀ {k k' : Nat}, k ≤ k' → CfLe (callM tb nv k) (callM tb nv k')
  | 0, _, _ => fun _ _ _ _ h => by cases h
  | k + 1, 0, hk => by omega
  | k + 1, k' + 1, hk => fun f vs H r h => by
    have hk' := Nat.le_of_succ_le_succ hk
    simp only [callM] at h ⊢
    split at h
    · exact runFn_mono (callM_mono hk') hk' h
    · exact h

/-! ### What holds behind -/

/-- A frame, as it is known on one way: what was passed by is told from what has a value. -/
abbrev WFr := Trie (Option Value)

def toFr : WFr → Fr
  | .leaf => .leaf
  | .node v l r => .node (v.map fun x => x.getD skipV) (toFr l) (toFr r)

theorem toFr_get : ∀ (wf : WFr) (t : Nat), (toFr wf).get t = (wf.get t).map fun x => x.getD skipV
  | .leaf, t => by simp only [toFr, Trie.get_leaf, Option.map_none]
  | .node v l r, t => by
    simp only [toFr, Trie.get_node]
    split
    · rfl
    · split
      · exact toFr_get l _
      · exact toFr_get r _

theorem toFr_put : ∀ (k : Nat) (wf : WFr) (t : Nat) (x : Option Value), toFr (Trie.put k wf t x) = Trie.put k (toFr wf) t (x.getD skipV)
  | 0, wf, t, x => by cases wf <;> simp only [Trie.put, toFr]
  | k + 1, .leaf, t, x => by
    simp only [Trie.put, toFr]
    cases Nat.beq t 0 with
    | true => rfl
    | false =>
      cases Nat.beq (Nat.mod t 2) 1 with
      | true => simp only [cond_true, cond_false, toFr, toFr_put k, Option.map_none]
      | false => simp only [cond_true, cond_false, toFr, toFr_put k, Option.map_none]
  | k + 1, .node v l r, t, x => by
    simp only [Trie.put, toFr]
    cases Nat.beq t 0 with
    | true => rfl
    | false =>
      cases Nat.beq (Nat.mod t 2) 1 with
      | true => simp only [cond_true, cond_false, toFr, toFr_put k]
      | false => simp only [cond_true, cond_false, toFr, toFr_put k]

theorem toFr_set (wf : WFr) (t : Nat) (x : Option Value) : toFr (wf.set t x) = (toFr wf).set t (x.getD skipV) := toFr_put (t + 1) wf t x

def keepW (wf : WFr) : List Nat → WFr
  | [] => .leaf
  | s :: r => match wf.get s with
    | some v => (keepW wf r).set s v
    | none => keepW wf r

theorem toFr_keep (wf : WFr) : ∀ l : List Nat, toFr (keepW wf l) = keepFr (toFr wf) l
  | [] => rfl
  | s :: r => by
    simp only [keepW, keepFr, toFr_get]
    cases h : wf.get s with
    | none => exact toFr_keep wf r
    | some v => simp only [Option.map_some, toFr_set, toFr_keep wf r]

def gv (wf : WFr) (t : Nat) : Value :=
  match wf.get t with
  | some (some v) => v
  | some none => skipV
  | none => undef

def evW (wf : WFr) : Opd → Value
  | .t n => gv wf n
  | .c v => v

theorem evW_ev (wf : WFr) (x : Opd) : ev (toFr wf).get x = evW wf x := by
  cases x with
  | c v => rfl
  | t n =>
    simp only [ev, evW, gv, toFr_get]
    cases wf.get n with
    | none => rfl
    | some x => cases x <;> rfl

def putW (wf : WFr) (dst : Option Nat) (v : Option Value) : WFr :=
  match dst with
  | some d => wf.set d v
  | none => wf

theorem toFr_putW (wf : WFr) (dst : Option Nat) (v : Option Value) : toFr (putW wf dst v) = putD (toFr wf) dst (v.getD skipV) := by
  cases dst with
  | none => rfl
  | some d => exact toFr_set wf d v

/-- A call ends, and behind it Q holds. -/
def Ev (tb : Nat → Option DFn) (nv : CallF) (f : Nat) (vs : List Value) (H : Heap) (Q : Value → Heap → Prop) : Prop := ∃ k v H', callM tb nv k f vs H = some (v, H') ∧ Q v H'

abbrev EvF := Nat → List Value → Heap → (Value → Heap → Prop) → Prop

inductive wP (p : PI) (vs : List Value) (Q : Value → Prop) : Prop where
  | mk (v : Value) (h : pureSem p vs = some v) (q : Q v)
inductive wR (r : RI) (vs : List Value) (H : Heap) (Q : Value → Prop) : Prop where
  | mk (v : Value) (h : readSem r vs H = some v) (q : Q v)
inductive wA (a : AI) (vs : List Value) (H : Heap) (Q : Value → Heap → Prop) : Prop where
  | mk (x : Blk) (f : Nat → Value) (h : allocSem a vs = some (x, f)) (q : Q (f H.next) (H.push x))
inductive wE (e : EI) (vs : List Value) (H : Heap) (Q : Value → Heap → Prop) : Prop where
  | mk (v : Value) (H' : Heap) (h : effSem e vs H = some (v, H')) (q : Q v H')

/-- Some instructions are as good as done. -/
def wPure (p : PI) (vs : List Value) (Q : Value → Prop) : Prop :=
  match p, vs with
  | .mov, [x] => Q x
  | .pick, [.bool true, x, _] => Q x
  | .pick, [.bool false, _, x] => Q x
  | p, vs => wP p vs Q

def wIns (E : EvF) (ins : Ins) (vs : List Value) (H : Heap) (Q : Value → Heap → Prop) : Prop :=
  match ins with
  | .pure p => wPure p vs fun v => Q v H
  | .read r _ => wR r vs H fun v => Q v H
  | .alloc a => wA a vs H Q
  | .eff e => wE e vs H Q
  | .call f => E f vs H Q
  | .callv => match vs with
    | .func (.func f) first cap :: args => E f (first.toList ++ args ++ cap.toList) H Q
    | _ => False

def onB (c : Bool) (A B : Prop) : Prop :=
  match c with
  | true => A
  | false => B

def asB (v : Value) (K : Bool → Prop) : Prop :=
  match v with
  | .bool c => K c
  | _ => False

def wOps (E : EvF) : List DOper → WFr → Heap → (WFr → Heap → Prop) → Prop
  | [], wf, H, Q => Q wf H
  | o :: r, wf, H, Q => match o.guard with
    | none => wIns E o.ins (o.xs.map (evW wf)) H fun v H' => wOps E r (putW wf o.dst (some v)) H' Q
    | some (t, want) => match wf.get t with
      | none => False
      | some none => wOps E r (putW wf o.dst none) H Q
      | some (some g) => asB g fun c => onB c
            (match want with
              | true => wIns E o.ins (o.xs.map (evW wf)) H fun v H' => wOps E r (putW (wf.set t (some (.bool true))) o.dst (some v)) H' Q
              | false => wOps E r (putW (wf.set t (some (.bool true))) o.dst none) H Q)
            (match want with
              | true => wOps E r (putW (wf.set t (some (.bool false))) o.dst none) H Q
              | false => wIns E o.ins (o.xs.map (evW wf)) H fun v H' => wOps E r (putW (wf.set t (some (.bool false))) o.dst (some v)) H' Q)

/-- A read that is asked again: what, of what, what it was, and when. -/
structure Chk where
  r : RI
  vs : List Value
  v : Value
  at_ : List Nat

def wChk1 (c : Chk) (hs : List Heap) : List Nat → Prop → Prop
  | [], A => A
  | q :: l, A => match hs[q]? with
    | some H => (readSem c.r c.vs H = some c.v ∧ veq c.v c.v = true) ∧ wChk1 c hs l A
    | none => False

def wChk (hs : List Heap) : List Chk → Prop → Prop
  | [], A => A
  | c :: l, A => wChk1 c hs c.at_ (wChk hs l A)

def chkOf (o : DOper) (vs : List Value) (v : Value) (cs : List Chk) : List Chk :=
  match o.ins with
  | .read r (q :: l) => cs ++ [⟨r, vs, v, q :: l⟩]
  | _ => cs

/-- A region in which reads are asked again. -/
def wOpsF (E : EvF) : List DOper → WFr → Heap → List Heap → List Chk → (WFr → Heap → Prop) → Prop
  | [], wf, H, hs, cs, Q => wChk (hs ++ [H]) cs (Q wf H)
  | o :: r, wf, H, hs, cs, Q => match o.guard with
    | none => wIns E o.ins (o.xs.map (evW wf)) H fun v H' => wOpsF E r (putW wf o.dst (some v)) H' (hs ++ [H]) (chkOf o (o.xs.map (evW wf)) v cs) Q
    | some (t, want) => match wf.get t with
      | none => False
      | some none => wOpsF E r (putW wf o.dst none) H (hs ++ [H]) cs Q
      | some (some g) => asB g fun c => onB c
            (match want with
              | true => wIns E o.ins (o.xs.map (evW wf)) H fun v H' => wOpsF E r (putW (wf.set t (some (.bool true))) o.dst (some v)) H' (hs ++ [H]) (chkOf o (o.xs.map (evW wf)) v cs) Q
              | false => wOpsF E r (putW (wf.set t (some (.bool true))) o.dst none) H (hs ++ [H]) cs Q)
            (match want with
              | true => wOpsF E r (putW (wf.set t (some (.bool false))) o.dst none) H (hs ++ [H]) cs Q
              | false => wIns E o.ins (o.xs.map (evW wf)) H fun v H' => wOpsF E r (putW (wf.set t (some (.bool false))) o.dst (some v)) H' (hs ++ [H]) (chkOf o (o.xs.map (evW wf)) v cs) Q)

abbrev Kont := Ex → WFr → Heap → Prop

def kSeq (B : WFr → Heap → Prop) (K : Kont) : Kont := fun e wf H => match e with
  | .normal => B wf H
  | e => K e wf H

def kBlk (id : Nat) (K : Kont) : Kont := fun e wf H => match e with
  | .exit i => match Nat.beq i id with
    | true => K .normal wf H
    | false => K (.exit i) wf H
  | e => K e wf H

def keepWO (keep : Option (List Nat)) (wf : WFr) : WFr :=
  match keep with
  | some l => keepW wf l
  | none => wf

/-- 'wf': what was kept of the frame already. -/
def wLn (body : WFr → Heap → Kont → Prop) (keep : Option (List Nat)) : Nat → WFr → Heap → Kont → Prop
  | 0, _, _, _ => False
  | n + 1, wf, H, Q => body wf H (kSeq (fun wf' H' => wLn body keep n (keepWO keep wf') H' Q) Q)

/-- Where a frame is cut down to what is kept: nothing is said, but the kernel stops here. -/
inductive atK (A : Prop) : Prop where
  | mk (h : A)

/-- A bool that is known from now on. -/
def known (c : Opd) (u : Bool) (wf : WFr) : WFr := match c with | .t n => wf.set n (some (.bool u)) | .c _ => wf

def wC (tb : Nat → Option DFn) (nv : CallF) : C → WFr → Heap → Kont → Prop
  | .skip, wf, H, Q => Q .normal wf H
  | .ret, wf, H, Q => Q .ret wf H
  | .exit id, wf, H, Q => Q (.exit id) wf H
  | .region ds false, wf, H, Q => wOps (Ev tb nv) ds wf H fun wf' H' => Q .normal wf' H'
  | .region ds true, wf, H, Q => wOpsF (Ev tb nv) ds wf H [] [] fun wf' H' => Q .normal wf' H'
  | .seq a b, wf, H, Q => wC tb nv a wf H (kSeq (fun wf' H' => wC tb nv b wf' H' Q) Q)
  | .cond c a b, wf, H, Q => asB (evW wf c) fun t => onB t (wC tb nv a (known c true wf) H Q) (wC tb nv b (known c false wf) H Q)
  | .block id a, wf, H, Q => wC tb nv a wf H (kBlk id Q)
  | .loop keep a, wf, H, Q => ∃ n, wLn (fun wf H Q => wC tb nv a wf H Q) keep n (keepWO keep wf) H Q
  | .keep l a, wf, H, Q => atK (wC tb nv a (keepW wf l) H Q)

def wRes (wf : WFr) (H : Heap) : List RV → (List Value → Prop) → Prop
  | [], Q => Q []
  | .tmp t :: r, Q => wRes wf H r fun l => Q (gv wf t :: l)
  | .cell t n agg :: r, Q => wR (.load n agg) [gv wf t] H fun v => wRes wf H r fun l => Q (v :: l)

def argsW : List Value → Nat → WFr → WFr
  | [], _, wf => wf
  | v :: l, i, wf => argsW l (i + 1) (wf.set i (some v))

def kFn (rs : List RV) (Q : Value → Heap → Prop) : Kont := fun e wf H => match e with
  | .exit _ => False
  | _ => wRes wf H rs fun l => Q (valOf l) H

def wFn (tb : Nat → Option DFn) (nv : CallF) (d : DFn) (vs : List Value) (H : Heap) (Q : Value → Heap → Prop) : Prop := wC tb nv d.body (argsW vs 0 .leaf) H (kFn d.res Q)

/-- A frame that is told whole. -/
def mkW : List (Nat × Value) → WFr
  | [] => .leaf
  | (s, v) :: r => (mkW r).set s (some v)

def wLoop (tb : Nat → Option DFn) (nv : CallF) (body : C) (keep : List Nat) (wf : WFr) (H : Heap) (K : Kont) : Prop := ∃ n, wLn (fun wf H Q => wC tb nv body wf H Q) (some keep) n wf H K

/-! ### What is put where it lies already changes nothing -/

theorem Trie.put_same {α : Type} : ∀ (k : Nat) (t : Trie α) (n : Nat) (x : α), n < k → t.get n = some x → Trie.put k t n x = t
  | 0, _, _, _, h, _ => absurd h (Nat.not_lt_zero _)
  | k + 1, .leaf, n, x, _, h => by rw [Trie.get_leaf] at h; cases h
  | k + 1, .node v l r, n, x, hk, h => by
    rw [Trie.get_node] at h
    unfold Trie.put
    simp only [nbeq]
    show cond (n == 0) _ (cond ((n % 2) == 1) (Trie.node v (Trie.put k l (n / 2) x) r) (Trie.node v l (Trie.put k r (n / 2 - 1) x))) = _
    by_cases h0 : n = 0
    · rw [if_pos h0] at h; subst h0; subst h; rfl
    · rw [if_neg h0] at h
      have hb : (n == 0) = false := by simp [h0]
      rw [hb, cond_false]
      by_cases h1 : n % 2 = 1
      · rw [if_pos h1] at h
        have hb1 : ((n % 2) == 1) = true := by simp [h1]
        rw [hb1, cond_true, Trie.put_same k l (n / 2) x (by omega) h]
      · rw [if_neg h1] at h
        have hb1 : ((n % 2) == 1) = false := by simp [h1]
        rw [hb1, cond_false, Trie.put_same k r (n / 2 - 1) x (by omega) h]

theorem Trie.set_same {α : Type} {t : Trie α} {n : Nat} {x : α} (h : t.get n = some x) : t.set n x = t := Trie.put_same (n + 1) t n x (Nat.lt_succ_self n) h

/-! ### What holds behind holds behind a run -/

section
variable {tb : Nat → Option DFn} {nv : CallF}

theorem wP_run {p : PI} {vs : List Value} {Q : Value → Prop} (h : wP p vs Q) : ∃ v, pureSem p vs = some v ∧ Q v := let ⟨v, h, q⟩ := h; ⟨v, h, q⟩

theorem wPure_run {p : PI} {vs : List Value} {Q : Value → Prop} (h : wPure p vs Q) : ∃ v, pureSem p vs = some v ∧ Q v := by
  unfold wPure at h
  split at h
  · exact ⟨_, rfl, h⟩
  · exact ⟨_, rfl, h⟩
  · exact ⟨_, rfl, h⟩
  · exact wP_run h

theorem wR_run {r : RI} {vs : List Value} {H : Heap} {Q : Value → Prop} (h : wR r vs H Q) : ∃ v, readSem r vs H = some v ∧ Q v := let ⟨v, h, q⟩ := h; ⟨v, h, q⟩

theorem wIns_run {ins : Ins} {vs : List Value} {H : Heap} {Q : Value → Heap → Prop} (h : wIns (Ev tb nv) ins vs H Q) : ∃ k v H', insD (callM tb nv k) ins vs H = some (v, H') ∧ Q v H' := by
  unfold wIns at h
  split at h
  · obtain ⟨v, h1, h2⟩ := wPure_run h
    exact ⟨0, v, H, by simp only [insD, h1], h2⟩
  · obtain ⟨v, h1, h2⟩ := wR_run h
    exact ⟨0, v, H, by simp only [insD, h1], h2⟩
  · obtain ⟨x, f, h1, q⟩ := h
    exact ⟨0, _, _, by simp only [insD, h1], q⟩
  · obtain ⟨v, H', h1, q⟩ := h
    exact ⟨0, v, H', by simp only [insD]; exact h1, q⟩
  · obtain ⟨k, v, H', h1, h2⟩ := h
    exact ⟨k, v, H', by simp only [insD]; exact h1, h2⟩
  · split at h
    · obtain ⟨k, v, H', h1, h2⟩ := h
      exact ⟨k, v, H', by simp only [insD]; exact h1, h2⟩
    · exact h.elim

theorem wOps_run : ∀ {ds : List DOper} {wf : WFr} {H : Heap} {Q : WFr → Heap → Prop}, wOps (Ev tb nv) ds wf H Q → ∃ k wf' H', runOps (callM tb nv k) ds (toFr wf) H = some (toFr wf', H') ∧ Q wf' H'
  | [], wf, H, Q, h => ⟨0, wf, H, rfl, h⟩
  | o :: r, wf, H, Q, h => by
    have exs : o.xs.map (ev (toFr wf).get) = o.xs.map (evW wf) := List.map_congr_left fun x _ => evW_ev wf x
    have run : ∀ {g : WFr} {v : Value} {u : Option Value} {H1 : Heap} {k : Nat}, stepD (callM tb nv k) o (toFr wf).get H = some (v, H1) → toFr g = toFr wf → u.getD skipV = v → wOps (Ev tb nv) r (putW g o.dst u) H1 Q →
        ∃ k wf' H', runOps (callM tb nv k) (o :: r) (toFr wf) H = some (toFr wf', H') ∧ Q wf' H' := by
      intro g v u H1 k hs hg hu hw
      obtain ⟨k2, wf', H', h1, h2⟩ := wOps_run hw
      refine ⟨max k k2, wf', H', ?_, h2⟩
      simp only [runOps]
      rw [stepD_mono (callM_mono (Nat.le_max_left k k2)) hs]
      rw [toFr_putW, hg, hu] at h1
      exact runOps_mono (callM_mono (Nat.le_max_right k k2)) h1
    have go : ∀ {g : WFr}, wantD o.guard (toFr wf).get = some true → toFr g = toFr wf → wIns (Ev tb nv) o.ins (o.xs.map (evW wf)) H (fun v H' => wOps (Ev tb nv) r (putW g o.dst (some v)) H' Q) →
        ∃ k wf' H', runOps (callM tb nv k) (o :: r) (toFr wf) H = some (toFr wf', H') ∧ Q wf' H' := by
      intro g hw hg hi
      obtain ⟨k, v, H1, h1, h2⟩ := wIns_run hi
      exact run (k := k) (by unfold stepD; rw [hw, exs]; exact h1) hg rfl h2
    have pass : ∀ {g : WFr}, wantD o.guard (toFr wf).get = some false → toFr g = toFr wf → wOps (Ev tb nv) r (putW g o.dst none) H Q →
        ∃ k wf' H', runOps (callM tb nv k) (o :: r) (toFr wf) H = some (toFr wf', H') ∧ Q wf' H' := by
      intro g hw hg hi
      exact run (k := 0) (by unfold stepD; rw [hw]; rfl) hg rfl hi
    simp only [wOps] at h
    split at h
    · rename_i hg
      exact go (by rw [hg]; rfl) rfl h
    · rename_i t want hg
      split at h
      · exact h.elim
      · rename_i hx
        exact pass (by rw [hg]; simp [wantD, toFr_get, hx, skipV]) rfl h
      · rename_i x hx
        unfold asB at h
        split at h
        · rename_i c
          have es : ∀ u, u = c → toFr (wf.set t (some (.bool u))) = toFr wf := fun u hu => by
            rw [toFr_set]
            exact Trie.set_same (by rw [toFr_get, hx, hu]; rfl)
          cases c with
          | true =>
            cases want with
            | true => exact go (by rw [hg]; simp [wantD, toFr_get, hx]) (es true rfl) h
            | false => exact pass (by rw [hg]; simp [wantD, toFr_get, hx]) (es true rfl) h
          | false =>
            cases want with
            | true => exact pass (by rw [hg]; simp [wantD, toFr_get, hx]) (es false rfl) h
            | false => exact go (by rw [hg]; simp [wantD, toFr_get, hx]) (es false rfl) h
        · exact h.elim

theorem wChk1_all {c : Chk} {hs : List Heap} : ∀ {l : List Nat} {A : Prop}, wChk1 c hs l A → (∀ q ∈ l, chkAt c.r c.vs c.v hs q = true) ∧ A
  | [], A, h => ⟨fun q hq => by simp at hq, h⟩
  | q :: l, A, h => by
    simp only [wChk1] at h
    split at h
    · rename_i H hH
      obtain ⟨⟨h1, h2⟩, h3⟩ := h
      obtain ⟨h4, h5⟩ := wChk1_all h3
      refine ⟨fun p hp => ?_, h5⟩
      rcases List.mem_cons.1 hp with rfl | hp
      · simp only [chkAt, hH, h1, h2]
      · exact h4 p hp
    · exact h.elim

theorem wChk_all {hs : List Heap} : ∀ {cs : List Chk} {A : Prop}, wChk hs cs A → (∀ c ∈ cs, ∀ q ∈ c.at_, chkAt c.r c.vs c.v hs q = true) ∧ A
  | [], A, h => ⟨fun c hc => by simp at hc, h⟩
  | c :: l, A, h => by
    obtain ⟨h1, h2⟩ := wChk1_all h
    obtain ⟨h3, h4⟩ := wChk_all h2
    refine ⟨fun d hd => ?_, h4⟩
    rcases List.mem_cons.1 hd with rfl | hd
    · exact h1
    · exact h3 d hd

theorem wOpsF_run : ∀ {ds : List DOper} {wf : WFr} {H : Heap} {hs : List Heap} {cs : List Chk} {Q : WFr → Heap → Prop}, wOpsF (Ev tb nv) ds wf H hs cs Q →
    ∃ k l wf' H', traceOps (callM tb nv k) ds (toFr wf) H = some (l, toFr wf', H') ∧ (∀ c ∈ cs, ∀ q ∈ c.at_, chkAt c.r c.vs c.v (hs ++ (l.map (·.2.1) ++ [H'])) q = true) ∧ chkOps (hs ++ (l.map (·.2.1) ++ [H'])) ds l = true ∧ Q wf' H'
  | [], wf, H, hs, cs, Q, h => by
    obtain ⟨h1, h2⟩ := wChk_all (show wChk (hs ++ [H]) cs (Q wf H) from h)
    exact ⟨0, [], wf, H, rfl, h1, rfl, h2⟩
  | o :: r, wf, H, hs, cs, Q, h => by
    have exs : o.xs.map (ev (toFr wf).get) = o.xs.map (evW wf) := List.map_congr_left fun x _ => evW_ev wf x
    have go : ∀ {g : WFr}, wantD o.guard (toFr wf).get = some true → toFr g = toFr wf →
        wIns (Ev tb nv) o.ins (o.xs.map (evW wf)) H (fun v H' => wOpsF (Ev tb nv) r (putW g o.dst (some v)) H' (hs ++ [H]) (chkOf o (o.xs.map (evW wf)) v cs) Q) →
        ∃ k l wf' H', traceOps (callM tb nv k) (o :: r) (toFr wf) H = some (l, toFr wf', H') ∧ (∀ c ∈ cs, ∀ q ∈ c.at_, chkAt c.r c.vs c.v (hs ++ (l.map (·.2.1) ++ [H'])) q = true) ∧ chkOps (hs ++ (l.map (·.2.1) ++ [H'])) (o :: r) l = true ∧ Q wf' H' := by
      intro g hw hg hi
      obtain ⟨k, v, H1, h1, h2⟩ := wIns_run hi
      obtain ⟨k2, l, wf', H', h3, h4, h5, h6⟩ := wOpsF_run h2
      rw [toFr_putW, hg] at h3
      have e : hs ++ [H] ++ (l.map (·.2.1) ++ [H']) = hs ++ (((toFr wf, H, v) :: l).map (·.2.1) ++ [H']) := by simp
      rw [e] at h4 h5
      refine ⟨max k k2, (toFr wf, H, v) :: l, wf', H', ?_, fun c hc q hq => h4 c ?_ q hq, ?_, h6⟩
      · simp only [traceOps]
        rw [stepD_mono (callM_mono (Nat.le_max_left k k2)) (show stepD (callM tb nv k) o (toFr wf).get H = some (v, H1) by unfold stepD; rw [hw, exs]; exact h1)]
        simp only
        have h3' := traceOps_mono (callM_mono (tb := tb) (nv := nv) (Nat.le_max_right k k2)) h3
        simp only [Option.getD_some] at h3'
        rw [h3']
      · unfold chkOf
        split
        · exact List.mem_append_left _ hc
        · exact hc
      · simp only [chkOps]
        rw [h5, Bool.and_true, hw, exs]
        split
        · rename_i ri chk _ hins
          cases chk with
          | nil => rfl
          | cons q0 l0 =>
            have hmem : (⟨ri, o.xs.map (evW wf), v, q0 :: l0⟩ : Chk) ∈ chkOf o (o.xs.map (evW wf)) v cs := by
              unfold chkOf
              rw [hins]
              simp
            exact List.all_eq_true.2 fun q hq => h4 _ hmem q hq
        · rfl
    have pass : ∀ {g : WFr}, wantD o.guard (toFr wf).get = some false → toFr g = toFr wf → wOpsF (Ev tb nv) r (putW g o.dst none) H (hs ++ [H]) cs Q →
        ∃ k l wf' H', traceOps (callM tb nv k) (o :: r) (toFr wf) H = some (l, toFr wf', H') ∧ (∀ c ∈ cs, ∀ q ∈ c.at_, chkAt c.r c.vs c.v (hs ++ (l.map (·.2.1) ++ [H'])) q = true) ∧ chkOps (hs ++ (l.map (·.2.1) ++ [H'])) (o :: r) l = true ∧ Q wf' H' := by
      intro g hw hg hi
      obtain ⟨k2, l, wf', H', h3, h4, h5, h6⟩ := wOpsF_run hi
      rw [toFr_putW, hg] at h3
      have e : hs ++ [H] ++ (l.map (·.2.1) ++ [H']) = hs ++ (((toFr wf, H, skipV) :: l).map (·.2.1) ++ [H']) := by simp
      rw [e] at h4 h5
      refine ⟨k2, (toFr wf, H, skipV) :: l, wf', H', ?_, h4, ?_, h6⟩
      · simp only [traceOps]
        rw [show stepD (callM tb nv k2) o (toFr wf).get H = some (skipV, H) by unfold stepD; rw [hw]]
        simp only
        simp only [Option.getD_none] at h3
        rw [h3]
      · simp only [chkOps]
        rw [h5, Bool.and_true, hw]
    simp only [wOpsF] at h
    split at h
    · rename_i hg
      exact go (by rw [hg]; rfl) rfl h
    · rename_i t want hg
      split at h
      · exact h.elim
      · rename_i hx
        exact pass (by rw [hg]; simp [wantD, toFr_get, hx, skipV]) rfl h
      · rename_i x hx
        unfold asB at h
        split at h
        · rename_i c
          have es : ∀ u, u = c → toFr (wf.set t (some (.bool u))) = toFr wf := fun u hu => by
            rw [toFr_set]
            exact Trie.set_same (by rw [toFr_get, hx, hu]; rfl)
          cases c with
          | true =>
            cases want with
            | true => exact go (by rw [hg]; simp [wantD, toFr_get, hx]) (es true rfl) h
            | false => exact pass (by rw [hg]; simp [wantD, toFr_get, hx]) (es true rfl) h
          | false =>
            cases want with
            | true => exact pass (by rw [hg]; simp [wantD, toFr_get, hx]) (es false rfl) h
            | false => exact go (by rw [hg]; simp [wantD, toFr_get, hx]) (es false rfl) h
        · exact h.elim

theorem toFr_keepO (keep : Option (List Nat)) (wf : WFr) : toFr (keepWO keep wf) = keepO keep (toFr wf) := by
  cases keep with
  | none => rfl
  | some l => exact toFr_keep wf l

theorem wLn_run {body : WFr → Heap → Kont → Prop} {a : C} {keep : Option (List Nat)}
    (hb : ∀ {wf H Q}, body wf H Q → ∃ k e wf' H', runC (callM tb nv k) k a (toFr wf) H = some (e, toFr wf', H') ∧ Q e wf' H') :
    ∀ {n : Nat} {wf : WFr} {H : Heap} {Q : Kont}, wLn body keep n (keepWO keep wf) H Q → ∃ k e wf' H', loopN (fun fr H => runC (callM tb nv k) k a fr H) keep k (toFr wf) H = some (e, toFr wf', H') ∧ Q e wf' H'
  | 0, _, _, _, h => h.elim
  | n + 1, wf, H, Q, h => by
    obtain ⟨k1, e, fr1, H1, h1, h2⟩ := hb h
    rw [toFr_keepO] at h1
    have stop : ∀ e, e ≠ .normal → runC (callM tb nv k1) k1 a (keepO keep (toFr wf)) H = some (e, toFr fr1, H1) → loopN (fun fr H => runC (callM tb nv (k1 + 1)) (k1 + 1) a fr H) keep (k1 + 1) (toFr wf) H = some (e, toFr fr1, H1) := by
      intro e he h1
      simp only [loopN]
      rw [runC_mono (callM_mono (Nat.le_succ k1)) (Nat.le_succ k1) a h1]
      cases e with
      | normal => exact absurd rfl he
      | exit i => rfl
      | ret => rfl
    cases e with
    | normal =>
      obtain ⟨k2, e', fr', H', h3, h4⟩ := wLn_run hb (show wLn body keep n (keepWO keep fr1) H1 Q from h2)
      refine ⟨max k1 k2 + 1, e', fr', H', ?_, h4⟩
      simp only [loopN]
      rw [runC_mono (callM_mono (by omega)) (by omega) a h1]
      exact loopN_mono (fun fr H r h => runC_mono (callM_mono (by omega)) (by omega) a h) (by omega) h3
    | exit i => exact ⟨k1 + 1, _, fr1, H1, stop _ (by simp) h1, h2⟩
    | ret => exact ⟨k1 + 1, _, fr1, H1, stop _ (by simp) h1, h2⟩

theorem known_same {wf : WFr} {c : Opd} {u : Bool} (h : evW wf c = .bool u) : toFr (known c u wf) = toFr wf := by
  cases c with
  | c v => rfl
  | t n =>
    show toFr (wf.set n (some (.bool u))) = _
    rw [toFr_set]
    refine Trie.set_same ?_
    rw [toFr_get]
    have h' : gv wf n = .bool u := h
    unfold gv at h'
    split at h'
    · rename_i v hv; rw [hv, h']; rfl
    · cases h'
    · cases h'

theorem wC_run : ∀ (c : C) {wf : WFr} {H : Heap} {Q : Kont}, wC tb nv c wf H Q → ∃ k e wf' H', runC (callM tb nv k) k c (toFr wf) H = some (e, toFr wf', H') ∧ Q e wf' H'
  | .skip, wf, H, Q, h => ⟨0, .normal, wf, H, rfl, h⟩
  | .ret, wf, H, Q, h => ⟨0, .ret, wf, H, rfl, h⟩
  | .exit id, wf, H, Q, h => ⟨0, .exit id, wf, H, rfl, h⟩
  | .keep l a, wf, H, Q, h => by
    obtain ⟨h⟩ := (show atK (wC tb nv a (keepW wf l) H Q) from h)
    obtain ⟨k, e, fr', H', h1, h2⟩ := wC_run a h
    rw [toFr_keep] at h1
    exact ⟨k, e, fr', H', by simp only [runC]; exact h1, h2⟩
  | .region ds false, wf, H, Q, h => by
    obtain ⟨k, fr', H', h1, h2⟩ := wOps_run (show wOps (Ev tb nv) ds wf H _ from h)
    exact ⟨k, .normal, fr', H', by simp only [runC, regionD, h1], h2⟩
  | .region ds true, wf, H, Q, h => by
    obtain ⟨k, l, fr', H', h1, _, h3, h2⟩ := wOpsF_run (show wOpsF (Ev tb nv) ds wf H [] [] _ from h)
    simp only [List.nil_append] at h3
    exact ⟨k, .normal, fr', H', by simp only [runC, regionD, h1, h3, cond_true], h2⟩
  | .seq a b, wf, H, Q, h => by
    obtain ⟨k1, e, fr1, H1, h1, h2⟩ := wC_run a (show wC tb nv a wf H _ from h)
    cases e with
    | normal =>
      obtain ⟨k2, e', fr', H', h3, h4⟩ := wC_run b h2
      refine ⟨max k1 k2, e', fr', H', ?_, h4⟩
      simp only [runC]
      rw [runC_mono (callM_mono (Nat.le_max_left k1 k2)) (Nat.le_max_left k1 k2) a h1]
      exact runC_mono (callM_mono (Nat.le_max_right k1 k2)) (Nat.le_max_right k1 k2) b h3
    | exit i => exact ⟨k1, .exit i, fr1, H1, by simp only [runC, h1], h2⟩
    | ret => exact ⟨k1, .ret, fr1, H1, by simp only [runC, h1], h2⟩
  | .cond c a b, wf, H, Q, h => by
    have h' : asB (evW wf c) fun t => onB t (wC tb nv a (known c true wf) H Q) (wC tb nv b (known c false wf) H Q) := h
    unfold asB at h'
    split at h'
    · rename_i t ht
      cases t with
      | true =>
        obtain ⟨k, e, fr', H', h1, h3⟩ := wC_run a (show wC tb nv a (known c true wf) H Q from h')
        rw [known_same ht] at h1
        exact ⟨k, e, fr', H', by simp only [runC, evW_ev, ht, h1], h3⟩
      | false =>
        obtain ⟨k, e, fr', H', h1, h3⟩ := wC_run b (show wC tb nv b (known c false wf) H Q from h')
        rw [known_same ht] at h1
        exact ⟨k, e, fr', H', by simp only [runC, evW_ev, ht, h1], h3⟩
    · exact h'.elim
  | .block id a, wf, H, Q, h => by
    obtain ⟨k, e, fr', H', h1, h2⟩ := wC_run a (show wC tb nv a wf H _ from h)
    cases e with
    | normal => exact ⟨k, .normal, fr', H', by simp only [runC, h1], h2⟩
    | exit i =>
      have h2' : (match Nat.beq i id with | true => Q .normal fr' H' | false => Q (.exit i) fr' H') := h2
      by_cases e : i = id
      · have hb : Nat.beq i id = true := by rw [nbeq]; simp [e]
        rw [hb] at h2'
        exact ⟨k, .normal, fr', H', by simp only [runC, h1, if_pos e], h2'⟩
      · have hb : Nat.beq i id = false := by rw [nbeq]; simp [e]
        rw [hb] at h2'
        exact ⟨k, .exit i, fr', H', by simp only [runC, h1, if_neg e], h2'⟩
    | ret => exact ⟨k, .ret, fr', H', by simp only [runC, h1], h2⟩
  | .loop keep a, wf, H, Q, h => by
    obtain ⟨n, hn⟩ := (show ∃ n, wLn (fun wf H Q => wC tb nv a wf H Q) keep n (keepWO keep wf) H Q from h)
    obtain ⟨k, e, fr', H', h1, h2⟩ := wLn_run (fun h => wC_run a h) hn
    exact ⟨k, e, fr', H', by simp only [runC]; exact h1, h2⟩

theorem wRes_run {wf : WFr} {H : Heap} : ∀ {rs : List RV} {Q : List Value → Prop}, wRes wf H rs Q → ∃ l, resD (toFr wf) H rs = some l ∧ Q l
  | [], Q, h => ⟨[], rfl, h⟩
  | .tmp t :: r, Q, h => by
    obtain ⟨l, h1, h2⟩ := wRes_run (rs := r) h
    have e := evW_ev wf (.t t)
    simp only [ev, evW] at e
    exact ⟨gv wf t :: l, by simp only [resD, h1, e], h2⟩
  | .cell t n agg :: r, Q, h => by
    obtain ⟨v, h1, h2⟩ := wR_run h
    obtain ⟨l, h3, h4⟩ := wRes_run (rs := r) h2
    have e := evW_ev wf (.t t)
    simp only [ev, evW] at e
    exact ⟨v :: l, by simp only [resD, e, h1, h3], h4⟩

theorem toFr_args : ∀ (vs : List Value) (i : Nat) (wf : WFr), toFr (argsW vs i wf) = argsFr vs i (toFr wf)
  | [], i, wf => rfl
  | v :: l, i, wf => by simp only [argsW, argsFr, toFr_args l, toFr_set, Option.getD_some]

/-- A call's behaviour out of its function's text. -/
theorem Ev.fn {f : Nat} {d : DFn} (hd : tb f = some d) {vs : List Value} {H : Heap} {Q : Value → Heap → Prop} (hl : vs.length ≤ d.ntmps) (h : wFn tb nv d vs H Q) : Ev tb nv f vs H Q := by
  obtain ⟨k, e, fr, H', h1, h2⟩ := wC_run _ h
  rw [toFr_args] at h1
  have fin : ∀ (_ : e = .normal ∨ e = .ret), Ev tb nv f vs H Q := by
    intro he
    have h2' : wRes fr H' d.res fun l => Q (valOf l) H' := by rcases he with rfl | rfl <;> exact h2
    obtain ⟨l, h3, h4⟩ := wRes_run h2'
    refine ⟨k + 1, valOf l, H', ?_, h4⟩
    simp only [callM, hd]
    unfold runFn
    rw [if_pos hl]
    have h1' : runC (callM tb nv k) k d.body (argsFr vs 0 .leaf) H = some (e, toFr fr, H') := h1
    rcases he with rfl | rfl <;> (rw [h1']; simp only [h3])
  cases e with
  | normal => exact fin (.inl rfl)
  | exit i => exact h2.elim
  | ret => exact fin (.inr rfl)

/-- A call's behaviour out of a run. -/
theorem Ev.run {f k : Nat} {vs : List Value} {H : Heap} {v : Value} {H' : Heap} {Q : Value → Heap → Prop} (h : callM tb nv k f vs H = some (v, H')) (hq : Q v H') : Ev tb nv f vs H Q := ⟨k, v, H', h, hq⟩

theorem Ev.mono {f : Nat} {vs : List Value} {H : Heap} {Q Q' : Value → Heap → Prop} (h : Ev tb nv f vs H Q) (hq : ∀ v H', Q v H' → Q' v H') : Ev tb nv f vs H Q' := by
  obtain ⟨k, v, H', h1, h2⟩ := h
  exact ⟨k, v, H', h1, hq v H' h2⟩

end
end Go.Proofs.YtdpbbppjjjhnoaaGreatDoor.D
