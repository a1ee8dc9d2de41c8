/- The abstract machine "D": code, functions, calls: what it reckons is what the model does. No statement of the seat is proved in this text. -/
import Derived.Test.YtdpbbppjjjhnoaaGreatDoorDu
set_option linter.unusedSimpArgs false
set_option linter.unusedVariables false
namespace Go.Proofs.YtdpbbppjjjhnoaaGreatDoor.D
open Go

inductive C where
  | skip
  | ret
  | exit (id : Nat)
  | region (ds : List DOper) (flag : Bool)
  | seq (a b : C)
  | cond (c : Opd) (a b : C)
  | block (id : Nat) (a : C)
  | loop (keep : Option (List Nat)) (a : C)
  | keep (l : List Nat) (a : C)

inductive Ex where
  | normal
  | exit (id : Nat)
  | ret

def keepFr (fr : Fr) : List Nat → Fr
  | [] => .leaf
  | s :: r => match fr.get s with
    | some v => (keepFr fr r).set s v
    | none => keepFr fr r

def keepO (keep : Option (List Nat)) (fr : Fr) : Fr :=
  match keep with
  | some l => keepFr fr l
  | none => fr

def loopN (body : Fr → Heap → Option (Ex × Fr × Heap)) (keep : Option (List Nat)) : Nat → Fr → Heap → Option (Ex × Fr × Heap)
  | 0, _, _ => none
  | k + 1, fr, H => match body (keepO keep fr) H with
    | some (.normal, fr', H') => loopN body keep k fr' H'
    | r => r

def runC (cf : CallF) (k : Nat) : C → Fr → Heap → Option (Ex × Fr × Heap)
  | .skip, fr, H => some (.normal, fr, H)
  | .ret, fr, H => some (.ret, fr, H)
  | .exit id, fr, H => some (.exit id, fr, H)
  | .region ds flag, fr, H => match regionD cf ds flag fr H with
    | some (fr', H') => some (.normal, fr', H')
    | none => none
  | .seq a b, fr, H => match runC cf k a fr H with
    | some (.normal, fr', H') => runC cf k b fr' H'
    | r => r
  | .cond c a b, fr, H => match ev fr.get c with
    | .bool t => match t with
      | true => runC cf k a fr H
      | false => runC cf k b fr H
    | _ => none
  | .block id a, fr, H => match runC cf k a fr H with
    | some (.exit i, fr', H') => if i = id then some (.normal, fr', H') else some (.exit i, fr', H')
    | r => r
  | .loop keep a, fr, H => loopN (fun fr H => runC cf k a fr H) keep k fr H
  | .keep l a, fr, H => runC cf k a (keepFr fr l) H

inductive RV where
  | tmp (t : Nat)
  | cell (t n : Nat) (agg : Bool)

structure DFn where
  ntmps : Nat
  body : C
  res : List RV

def argsFr : List Value → Nat → Fr → Fr
  | [], _, fr => fr
  | v :: l, i, fr => argsFr l (i + 1) (fr.set i v)

def resD (fr : Fr) (H : Heap) : List RV → Option (List Value)
  | [] => some []
  | .tmp t :: r => match resD fr H r with
    | some l => some ((fr.get t).getD undef :: l)
    | none => none
  | .cell t n agg :: r => match readSem (.load n agg) [(fr.get t).getD undef] H, resD fr H r with
    | some v, some l => some (v :: l)
    | _, _ => none

def valOf : List Value → Value
  | [v] => v
  | l => .tuple ⟨l⟩

def runFn (cf : CallF) (k : Nat) (d : DFn) (args : List Value) (H : Heap) : Option (Value × Heap) :=
  if args.length ≤ d.ntmps then
    match runC cf k d.body (argsFr args 0 .leaf) H with
    | some (.normal, fr, H') | some (.ret, fr, H') => match resD fr H' d.res with
      | some l => some (valOf l, H')
      | none => none
    | _ => none
  else none

/-- The calls: 'tb' the functions that the machine runs, 'nv' those that are known otherwise. -/
def callM (tb : Nat → Option DFn) (nv : CallF) : Nat → CallF
  | 0, _, _, _ => none
  | k + 1, f, vs, H => match tb f with
    | some d => runFn (callM tb nv k) k d vs H
    | none => nv f vs H

/-! ### What is compiled -/

inductive CompC (P : Program) (ngl N : Nat) : Code → C → Prop where
  | skip : CompC P ngl N .skip .skip
  | ret : CompC P ngl N .ret .ret
  | exit (id : Nat) : CompC P ngl N (.exit id) (.exit id)
  | region (id : Nat) (ops : Array Oper) (draw : Bool) (ds : List DOper) (flag : Bool) (h : RegComp P ngl N ops draw ds flag) : CompC P ngl N (.region id ops draw) (.region ds flag)
  | seq (a b : Code) (a' b' : C) (ha : CompC P ngl N a a') (hb : CompC P ngl N b b') : CompC P ngl N (.seq a b) (.seq a' b')
  | cond (c : Operand) (c' : Opd) (a b : Code) (a' b' : C) (hc : mapOpd ngl [c] = some [c']) (ha : CompC P ngl N a a') (hb : CompC P ngl N b b') : CompC P ngl N (.cond c a b) (.cond c' a' b')
  | block (id : Nat) (a : Code) (a' : C) (ha : CompC P ngl N a a') : CompC P ngl N (.block id a) (.block id a')
  | loop (a : Code) (keep : Option (List Nat)) (a' : C) (ha : CompC P ngl N a a') : CompC P ngl N (.loop a) (.loop keep a')
  | keep (a : Code) (l : List Nat) (a' : C) (ha : CompC P ngl N a a') : CompC P ngl N a (.keep l a')
  | after (a : Code) (l : List Nat) (a' : C) (ha : CompC P ngl N a a') : CompC P ngl N a (.seq a' (.keep l .skip))
  | scope (a : Code) (a' : C) (ha : CompC P ngl N a a') : CompC P ngl N (.scope a) a'
  | label (l : Nat) : CompC P ngl N (.label l) .skip

def ExRel : Ex → Exit → Prop
  | .normal, .normal => True
  | .exit i, .exit k => i = k
  | .ret, .ret => True
  | _, _ => False

section
variable {P : Program} {w0 : World} {ng ngl N : Nat} {cf : CallF}

theorem keepFr_get (fr : Fr) : ∀ (l : List Nat) (t : Nat), (keepFr fr l).get t = fr.get t ∨ (keepFr fr l).get t = none
  | [], t => .inr (Trie.get_leaf t)
  | s :: r, t => by
    simp only [keepFr]
    split
    · rename_i v hv
      rw [Trie.get_set]
      by_cases e : t = s
      · subst e; rw [if_pos rfl]; exact .inl hv.symm
      · rw [if_neg e]; exact keepFr_get fr r t
    · exact keepFr_get fr r t

theorem keep_rel {n0 : Nat} {j : Inj} {fr : Fr} {a : Act} (h : FRel n0 j N fr.get a) (keep : Option (List Nat)) : FRel n0 j N (keepO keep fr).get a := by
  cases keep with
  | none => exact h
  | some l =>
    refine ⟨h.1, h.2.1, fun t => ?_⟩
    rcases keepFr_get fr l t with e | e
    · show VRel n0 j (((keepFr fr l).get t).getD undef) _
      rw [e]; exact h.2.2 t
    · show VRel n0 j (((keepFr fr l).get t).getD undef) _
      rw [e]; exact .undef _

/-- A region that is carried out in the text's order. -/
theorem ops_sound (hcf : CfOk P w0 ng ngl cf) {ops : Array Oper} {ds : List DOper} {draw flag : Bool} (C : RegComp P ngl N ops draw ds flag) {l : List (Fr × Heap × Value)} {fr fr' : Fr} {H H' : Heap} (h : traceOps cf ds fr H = some (l, fr', H'))
    {top : Nat} (hT : H'.next ≤ top) {j0 : Inj} {wi : World} (Q : Exit → Act → World → Prop)
    (hQ : ∀ a w j, FRel w0.heap.size j N fr'.get a → Rel w0 ng top j H' w → GRel w0.heap.size ngl j → Frm top j0 j H H' wi w → Q .normal a w) :
    ∀ (m k : Nat), m + k = ds.length → ∀ (a : Act) (w : World) (j : Inj), FRel w0.heap.size j N (frAt l fr' k).get a → Rel w0 ng top j (hpAt l H' k) w → GRel w0.heap.size ngl j → Frm top j0 j H (hpAt l H' k) wi w → wpOps P ops Q (List.range' k m) a w := by
  obtain ⟨hl, h0, h1, hst⟩ := traceOps_spec h
  intro m
  induction m with
  | zero =>
    intro k hk a w j hF R hG F
    have : k = ds.length := by omega
    subst this
    have e1 : frAt l fr' ds.length = fr' := by simp [frAt, hl]
    have e2 : hpAt l H' ds.length = H' := by simp [hpAt, hl]
    rw [e1] at hF; rw [e2] at R F
    exact hQ a w j hF R hG F
  | succ m ih =>
    intro k hk a w j hF R hG F
    rw [List.range'_succ, wpOps_cons]
    obtain ⟨o, ho, hc⟩ := C.comp k (by have := C.size; omega)
    obtain ⟨s1, s2⟩ := hst k (by omega)
    have T := mkTrace h
    have hn : (hpAt l H' (k + 1)).next ≤ top := by
      have := trace_mono hcf (mkTrace h) ds.length (Nat.le_refl _) (k + 1) (by omega)
      have e2 : hpAt l H' ds.length = H' := by simp [hpAt, hl]
      have e3 : (hpAt l H' (k + 1)).next ≤ (hpAt l H' ds.length).next := this
      rw [e2] at e3
      omega
    refine op_wp hcf ho hc R hG hF s1 hn _ _ (fun v' w' j' hv R' F' => ?_)
    refine ih (k + 1) (by omega) _ w' j' ?_ R' (hG.mono F'.le) (F.trans F')
    have := (hF.mono F'.le).put hc.dlt hv
    refine this.congr fun t => ?_
    rw [s2, hc.dst]
    cases hd : o.dst with
    | none => simp [putD]
    | some d =>
      simp only [putD, Trie.get_set, Option.some.injEq]
      by_cases e : t = d
      · subst e; simp
      · rw [if_neg e, if_neg (fun q => e q.symm)]

theorem region_sound (hcf : CfOk P w0 ng ngl cf) {id : Nat} {ops : Array Oper} {ds : List DOper} {draw flag : Bool} (Cm : RegComp P ngl N ops draw ds flag) {fr fr' : Fr} {H H' : Heap} (h : regionD cf ds flag fr H = some (fr', H'))
    {top : Nat} (hT : H'.next ≤ top) {j : Inj} {a : Act} {w : World} (hF : FRel w0.heap.size j N fr.get a) (R : Rel w0 ng top j H w) (hG : GRel w0.heap.size ngl j) :
    (Code.region id ops draw).wp P (fun e a' w' => e = .normal ∧ ∃ j', FRel w0.heap.size j' N fr'.get a' ∧ Rel w0 ng top j' H' w' ∧ GRel w0.heap.size ngl j' ∧ Frm top j j' H H' w w') a w := by
  obtain ⟨l, hl, hchk⟩ : ∃ l, traceOps cf ds fr H = some (l, fr', H') ∧ (flag = true → chkOps (l.map (·.2.1) ++ [H']) ds l = true) := by
    unfold regionD at h
    split at h
    · obtain ⟨l, hl⟩ := run_trace h
      exact ⟨l, hl, fun e => by cases e⟩
    · split at h
      · rename_i l fr2 H2 ht
        cases hq : chkOps (l.map (·.2.1) ++ [H2]) ds l with
        | false => rw [hq] at h; cases h
        | true =>
          rw [hq] at h
          simp only [cond_true, Option.some.injEq, Prod.mk.injEq] at h
          obtain ⟨rfl, rfl⟩ := h
          exact ⟨l, ht, fun _ => hq⟩
      · cases h
  obtain ⟨hll, hl0, hl1, _⟩ := traceOps_spec hl
  cases draw with
  | false =>
    refine wp_region ?_
    have := ops_sound hcf Cm hl hT (j0 := j) (wi := w) (fun e a' w' => e = .normal ∧ ∃ j', FRel w0.heap.size j' N fr'.get a' ∧ Rel w0 ng top j' H' w' ∧ GRel w0.heap.size ngl j' ∧ Frm top j j' H H' w w')
      (fun a' w' j' h1 h2 h3 h4 => ⟨rfl, j', h1, h2, h3, h4⟩) ds.length 0 (by omega) a w j (by rw [hl0]; exact hF) (by rw [hl1]; exact R) hG (by rw [hl1]; exact Frm.refl _ _ _ _)
    rw [← Cm.size, List.range_eq_range']
    exact this
  | true =>
    obtain ⟨hm, _, _, _, hflag⟩ := Cm.any rfl
    have RO := reg_ok Cm hl (by
      cases hfl : flag with
      | false => exact .inl (hflag hfl)
      | true => exact .inr (hchk hfl))
    have hHn : (mkTrace hl).Hs ds.length = H' := by show hpAt l H' ds.length = H'; simp [hpAt, hll]
    have hgn : (mkTrace hl).g ds.length = fr'.get := by show (frAt l fr' ds.length).get = _; simp [frAt, hll]
    have hH0 : (mkTrace hl).Hs 0 = H := hl1
    have hg0 : (mkTrace hl).g 0 = fr.get := by show (frAt l fr' 0).get = _; rw [hl0]
    refine wp_region_any hm ?_
    have R1 : Rel w0 ng top j H { w with drawn := w.drawn + 1 } := R.drew _
    have hmono := trace_mono hcf (mkTrace hl)
    -- where it begins
    have hI0 : Inv P w0 ng ngl N ops (mkTrace hl) top j { w with drawn := w.drawn + 1 } (fun _ => false) 0 j a { w with drawn := w.drawn + 1 } := by
      refine ⟨Nat.zero_le _, fun i h => by simp at h, fun i o h => by simp at h, fun e h => by omega, fun _ _ _ => rfl, ?_, by rw [hH0]; exact R1.retop _ (fun b i _ => Nat.lt_or_ge b _), hG, by rw [hH0]; exact Frm.refl _ _ _ _, ?_, ?_, ?_, fun i x h => by omega, ?_⟩
      · refine hF.congr fun t => ?_
        have : ∀ m, lastV (mkTrace hl) (fun _ => false) m t = (mkTrace hl).g 0 t := by
          intro m
          induction m with
          | zero => rfl
          | succ m ih => rw [lastV, if_neg (by simp)]; exact ih
        rw [this, hg0]
      · intro i x hi hx
        constructor
        · intro h; simp at h
        · rintro ⟨k, hk⟩
          exfalso
          have h1 := hmono i (Nat.le_of_lt hi) 0 (Nat.zero_le _)
          have h2 := made_next hcf hi (Nat.le_refl _) hi hx
          rw [hH0] at h1
          rw [hHn] at h2
          rcases R.dom _ _ hk with h3 | h3 <;> omega
      · intro b k hb
        rw [hH0]
        rcases R.dom b k hb with h | h
        · exact .inl h
        · exact .inr (.inl h)
      · intro i x k hi _ hx hk
        exfalso
        have h1 := hmono i (Nat.le_of_lt hi) 0 (Nat.zero_le _)
        have h2 := made_next hcf hi (Nat.le_refl _) hi hx
        rw [hH0] at h1
        rw [hHn] at h2
        rcases R.dom _ _ hk with h3 | h3 <;> omega
      · intro i hi b hb
        have : i = 0 := by omega
        subst this
        rw [hH0] at hb ⊢
        exact R.fresh b hb
    obtain ⟨p, I, hp⟩ := inv_absorb hcf ds.length 0 (by omega) hI0
    refine any_sound hcf RO (by rw [hHn]; exact hT) _ (j0 := j) (wi := { w with drawn := w.drawn + 1 }) (fun a' w' j' h1 h2 h3 h4 => ?_) ops.size _ a _ (by simp [Cm.size]) ?_ ⟨p, j, ?_, hp⟩
    · rw [hgn] at h1; rw [hHn] at h2 h4; rw [hH0] at h4
      exact ⟨rfl, j', h1, h2, h3, h4.undrew⟩
    · rw [← Cm.size]
      exact Nat.le_trans (List.length_filter_le _ _) (by simp)
    · have hsame : (fun i => (Array.replicate ops.size false).getD i false) = fun _ => false := by
        funext i
        rw [Array.getD_eq_getD_getElem?, Array.getElem?_replicate]
        split <;> rfl
      rw [hsame]
      exact I

end
end Go.Proofs.YtdpbbppjjjhnoaaGreatDoor.D
