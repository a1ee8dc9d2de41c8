/- The abstract machine "D": regions checked by reckoning, and run. No statement of the seat is proved in this text. -/
import Derived.Test.YtdpbbppjjjhnoaaGreatDoorDs
set_option linter.unusedSimpArgs false
set_option linter.unusedVariables false
namespace Go.Proofs.YtdpbbppjjjhnoaaGreatDoor.D
open Go

/-! ### Two values that are one -/

def veq1 : Value → Value → Bool
  | .bool a, .bool b => a == b
  | .int k a, .int k' b => k == k' && a == b
  | .string a, .string b => a.data.toList == b.data.toList
  | .pointer a, .pointer b => a == b
  | .slice a l c, .slice b m d => a == b && l == m && c == d
  | .map a, .map b => a == b
  | .nilFunc, .nilFunc | .nilIface, .nilIface => true
  | .func f a c, .func g b d => f == g && a.isEmpty && b.isEmpty && c.isEmpty && d.isEmpty
  | .tuple a, .tuple b => a.isEmpty && b.isEmpty
  | _, _ => false

def veqL : List Value → List Value → Bool
  | [], [] => true
  | a :: l, b :: r => veq1 a b && veqL l r
  | _, _ => false

def veq : Value → Value → Bool
  | .agg a, .agg b => veqL a.toList b.toList
  | .tuple a, .tuple b => veqL a.toList b.toList
  | a, b => veq1 a b

theorem veq1_eq {a b : Value} (h : veq1 a b = true) : a = b := by
  cases a <;> cases b <;> simp only [veq1] at h <;> first | (cases h; done) | skip
  all_goals first
    | rfl
    | (simp only [Bool.and_eq_true, beq_iff_eq, Array.isEmpty_iff] at h; simp_all; done)
    | skip
  rename_i s t
  obtain ⟨⟨s⟩⟩ := s
  obtain ⟨⟨t⟩⟩ := t
  simp at h
  subst h
  rfl

theorem veqL_eq : ∀ {l r : List Value}, veqL l r = true → l = r
  | [], [], _ => rfl
  | [], _ :: _, h => by simp [veqL] at h
  | _ :: _, [], h => by simp [veqL] at h
  | a :: l, b :: r, h => by
    simp only [veqL, Bool.and_eq_true] at h
    rw [veq1_eq h.1, veqL_eq h.2]

theorem veq_eq {a b : Value} (h : veq a b = true) : a = b := by
  unfold veq at h
  split at h
  · rename_i x y
    have := veqL_eq h
    rw [Array.ext' this]
  · rename_i x y
    have := veqL_eq h
    rw [Array.ext' this]
  · exact veq1_eq h

/-! ### Running a region -/

def runOps (cf : CallF) : List DOper → Fr → Heap → Option (Fr × Heap)
  | [], fr, H => some (fr, H)
  | o :: r, fr, H => match stepD cf o fr.get H with
    | some (v, H') => runOps cf r (putD fr o.dst v) H'
    | none => none

/-- The same, with all that was met on the way. -/
def traceOps (cf : CallF) : List DOper → Fr → Heap → Option (List (Fr × Heap × Value) × Fr × Heap)
  | [], fr, H => some ([], fr, H)
  | o :: r, fr, H => match stepD cf o fr.get H with
    | some (v, H') => match traceOps cf r (putD fr o.dst v) H' with
      | some (l, fr2, H2) => some ((fr, H, v) :: l, fr2, H2)
      | none => none
    | none => none

def chkAt (r : RI) (vs : List Value) (v : Value) (hs : List Heap) (q : Nat) : Bool :=
  match hs[q]? with
  | some H => match readSem r vs H with
    | some u => veq u v
    | none => false
  | none => false

def chkOps (hs : List Heap) : List DOper → List (Fr × Heap × Value) → Bool
  | o :: r, (fr, _, v) :: l => (match wantD o.guard fr.get, o.ins with
      | some true, .read ri chk => chk.all (chkAt ri (o.xs.map (ev fr.get)) v hs)
      | _, _ => true) && chkOps hs r l
  | _, _ => true

def regionD (cf : CallF) (ds : List DOper) (flag : Bool) (fr : Fr) (H : Heap) : Option (Fr × Heap) :=
  match flag with
  | false => runOps cf ds fr H
  | true => match traceOps cf ds fr H with
    | some (l, fr', H') => cond (chkOps (l.map (·.2.1) ++ [H']) ds l) (some (fr', H')) none
    | none => none

theorem run_trace {cf : CallF} : ∀ {ds : List DOper} {fr fr' : Fr} {H H' : Heap}, runOps cf ds fr H = some (fr', H') → ∃ l, traceOps cf ds fr H = some (l, fr', H')
  | [], fr, fr', H, H', h => by
    simp only [runOps, Option.some.injEq, Prod.mk.injEq] at h
    obtain ⟨rfl, rfl⟩ := h
    exact ⟨[], rfl⟩
  | o :: r, fr, fr', H, H', h => by
    simp only [runOps] at h
    split at h
    · rename_i v H1 hs
      obtain ⟨l, hl⟩ := run_trace h
      exact ⟨(fr, H, v) :: l, by simp only [traceOps, hs, hl]⟩
    · cases h

/-- The trace as functions of the place. -/
def frAt (l : List (Fr × Heap × Value)) (fr' : Fr) (i : Nat) : Fr := match l[i]? with | some x => x.1 | none => fr'
def hpAt (l : List (Fr × Heap × Value)) (H' : Heap) (i : Nat) : Heap := match l[i]? with | some x => x.2.1 | none => H'
def vlAt (l : List (Fr × Heap × Value)) (i : Nat) : Value := match l[i]? with | some x => x.2.2 | none => undef
def dAt (ds : List DOper) (i : Nat) : DOper := (ds[i]?).getD { dst := none, ins := .callv, xs := [], guard := none }

theorem traceOps_spec {cf : CallF} : ∀ {ds : List DOper} {fr fr' : Fr} {H H' : Heap} {l : List (Fr × Heap × Value)}, traceOps cf ds fr H = some (l, fr', H') →
    l.length = ds.length ∧ frAt l fr' 0 = fr ∧ hpAt l H' 0 = H ∧ ∀ i, i < ds.length →
      stepD cf (dAt ds i) (frAt l fr' i).get (hpAt l H' i) = some (vlAt l i, hpAt l H' (i + 1)) ∧ frAt l fr' (i + 1) = putD (frAt l fr' i) (dAt ds i).dst (vlAt l i)
  | [], fr, fr', H, H', l, h => by
    simp only [traceOps, Option.some.injEq, Prod.mk.injEq] at h
    obtain ⟨rfl, rfl, rfl⟩ := h
    exact ⟨rfl, rfl, rfl, fun i hi => absurd hi (Nat.not_lt_zero _)⟩
  | o :: r, fr, fr', H, H', l, h => by
    simp only [traceOps] at h
    split at h
    · rename_i v H1 hs
      split at h
      · rename_i l1 fr2 H2 ht
        simp only [Option.some.injEq, Prod.mk.injEq] at h
        obtain ⟨rfl, rfl, rfl⟩ := h
        obtain ⟨h1, h2, h3, h4⟩ := traceOps_spec ht
        refine ⟨by simp [h1], rfl, rfl, fun i hi => ?_⟩
        cases i with
        | zero =>
          refine ⟨?_, ?_⟩
          · show stepD cf o fr.get H = some (v, hpAt l1 H2 0)
            rw [h3]; exact hs
          · show frAt l1 fr2 0 = putD fr o.dst v
            exact h2
        | succ i => exact h4 i (by simpa using hi)
      · cases h
    · cases h

/-! ### What is checked of a region -/

def edges (o : Oper) : List Nat := (o.after.toList.filter (Region.binds .any ·)).map (·.on)

def maskOf (acc : List Nat) (o : Oper) : Nat := (edges o).foldl (fun s e => s ||| (2 ^ e ||| acc.getD e 0)) 0

def masks : List Nat → List Oper → List Nat
  | acc, [] => acc
  | acc, o :: r => masks (acc ++ [maskOf acc o]) r

def conf (di dk : DOper) : Bool :=
  (match di.dst with | some t => (readsOf dk).contains t || (match dk.dst with | some u => Nat.beq u t | none => false) | none => false) ||
  (match dk.dst with | some t => (readsOf di).contains t | none => false) || (isEff di.ins && isEff dk.ins)

def okWith (dk : DOper) (mk : Nat) : List DOper → Nat → Bool
  | [], _ => true
  | di :: r, i => (!conf di dk || Nat.testBit mk i) && okWith dk mk r (i + 1)

def okAll : List DOper → List DOper → List Nat → Bool
  | _, [], _ => true
  | _, _ :: _, [] => false
  | pre, dk :: r, mk :: ms => okWith dk mk pre 0 && okAll (pre ++ [dk]) r ms

/-- The places at which a read has to be asked again: ahead of the writes that may come behind it .. -/
def needB (mk : Nat) : List DOper → Nat → List Nat
  | [], _ => []
  | d :: r, i => if isEff d.ins && !Nat.testBit mk i then i :: needB mk r (i + 1) else needB mk r (i + 1)

/-- .. and behind those that may come ahead of it. -/
def needF (k : Nat) : List DOper → List Nat → Nat → List Nat
  | d :: r, m :: ms, i => if isEff d.ins && !Nat.testBit m k then (i + 1) :: needF k r ms (i + 1) else needF k r ms (i + 1)
  | _, _, _ => []

def fillChk : List DOper → List DOper → List Nat → Nat → List DOper
  | _, [], _, _ => []
  | pre, d :: r, ms, k =>
    let d' : DOper := match d.ins with
      | .read ri _ => { d with ins := .read ri (needB (ms.getD k 0) pre 0 ++ needF k r (ms.drop (k + 1)) (k + 1)) }
      | _ => d
    d' :: fillChk (pre ++ [d]) r ms (k + 1)

def flagged : List DOper → Bool
  | [] => false
  | d :: r => (match d.ins with | .read _ (_ :: _) => true | _ => false) || flagged r

def backOk : List Oper → Nat → Bool
  | [], _ => true
  | o :: r, i => (edges o).all (fun e => Nat.blt e i) && backOk r (i + 1)

end Go.Proofs.YtdpbbppjjjhnoaaGreatDoor.D
