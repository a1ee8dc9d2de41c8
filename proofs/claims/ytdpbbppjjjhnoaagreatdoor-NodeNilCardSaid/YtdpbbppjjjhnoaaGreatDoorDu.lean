/- The abstract machine "D": what is checked of a region by reckoning is what its proof asks. No statement of the seat is proved in this text. -/
import Derived.Test.YtdpbbppjjjhnoaaGreatDoorDt
set_option linter.unusedSimpArgs false
set_option linter.unusedVariables false
namespace Go.Proofs.YtdpbbppjjjhnoaaGreatDoor.D
open Go

theorem mem_edges {o : Oper} {e : Nat} : e ∈ edges o ↔ ∃ x ∈ o.after, Region.binds .any x = true ∧ x.on = e := by
  unfold edges
  constructor
  · intro h
    obtain ⟨x, hx, rfl⟩ := List.mem_map.1 h
    obtain ⟨h1, h2⟩ := List.mem_filter.1 hx
    exact ⟨x, by simpa using h1, h2, rfl⟩
  · rintro ⟨x, h1, h2, rfl⟩
    exact List.mem_map.2 ⟨x, List.mem_filter.2 ⟨by simpa using h1, h2⟩, rfl⟩

theorem maskOf_bit {acc : List Nat} {o : Oper} {i : Nat} (h : (maskOf acc o).testBit i = true) : ∃ e ∈ edges o, i = e ∨ (acc.getD e 0).testBit i = true := by
  have aux : ∀ (l : List Nat) (s : Nat), (l.foldl (fun s e => s ||| (2 ^ e ||| acc.getD e 0)) s).testBit i = true → s.testBit i = true ∨ ∃ e ∈ l, i = e ∨ (acc.getD e 0).testBit i = true := by
    intro l
    induction l with
    | nil => intro s h; exact .inl h
    | cons e l ih =>
      intro s h
      rcases ih _ h with h1 | ⟨e', h1, h2⟩
      · rw [Nat.testBit_or, Nat.testBit_or, Bool.or_eq_true, Bool.or_eq_true] at h1
        rcases h1 with h1 | h1 | h1
        · exact .inl h1
        · refine .inr ⟨e, List.mem_cons_self, .inl ?_⟩
          rw [Nat.testBit_two_pow] at h1
          exact (of_decide_eq_true h1).symm
        · exact .inr ⟨e, List.mem_cons_self, .inr h1⟩
      · exact .inr ⟨e', List.mem_cons_of_mem _ h1, h2⟩
  rcases aux _ _ h with h1 | h1
  · simp at h1
  · exact h1

theorem masks_spec : ∀ (r : List Oper) (acc : List Nat), (masks acc r).length = acc.length + r.length ∧ (∀ i, i < acc.length → (masks acc r)[i]? = acc[i]?) ∧
    ∀ i o, r[i]? = some o → (masks acc r)[acc.length + i]? = some (maskOf ((masks acc r).take (acc.length + i)) o)
  | [], acc => ⟨by simp [masks], fun i _ => by simp [masks], fun i o h => by simp at h⟩
  | o :: r, acc => by
    obtain ⟨h1, h2, h3⟩ := masks_spec r (acc ++ [maskOf acc o])
    simp only [masks]
    refine ⟨by rw [h1]; simp; omega, fun i hi => by rw [h2 i (by simp; omega), List.getElem?_append_left hi], fun i o' hi => ?_⟩
    cases i with
    | zero =>
      simp at hi
      subst hi
      rw [Nat.add_zero, h2 acc.length (by simp), List.getElem?_append_right (Nat.le_refl _), Nat.sub_self]
      have ht : (masks (acc ++ [maskOf acc o]) r).take acc.length = acc := by
        apply List.ext_getElem?
        intro k
        rw [List.getElem?_take]
        by_cases hk : k < acc.length
        · rw [if_pos hk, h2 k (by simp; omega), List.getElem?_append_left hk]
        · rw [if_neg hk, List.getElem?_eq_none (by omega)]
      rw [ht]
      rfl
    | succ i =>
      have := h3 i o' (by simpa using hi)
      simp only [List.length_append, List.length_cons, List.length_nil] at this
      rw [show acc.length + (i + 1) = acc.length + 1 + i by omega]
      simpa using this

theorem mask_bit {os : List Oper} {i k : Nat} (h : ((masks [] os).getD k 0).testBit i = true) : ∃ o, os[k]? = some o ∧ ∃ e ∈ edges o, i = e ∨ (e < k ∧ ((masks [] os).getD e 0).testBit i = true) := by
  obtain ⟨h1, _, h3⟩ := masks_spec os []
  simp only [List.length_nil, Nat.zero_add] at h1 h3
  cases ho : os[k]? with
  | none =>
    rw [List.getElem?_eq_none_iff] at ho
    rw [List.getD_eq_getElem?_getD, List.getElem?_eq_none (by omega)] at h
    simp at h
  | some o =>
    have hk := h3 k o ho
    rw [List.getD_eq_getElem?_getD, hk, Option.getD_some] at h
    obtain ⟨e, he, h4⟩ := maskOf_bit h
    refine ⟨o, rfl, e, he, h4.imp id fun h5 => ?_⟩
    rw [List.getD_eq_getElem?_getD, List.getElem?_take] at h5
    by_cases hek : e < k
    · rw [if_pos hek] at h5
      exact ⟨hek, by rw [List.getD_eq_getElem?_getD]; exact h5⟩
    · rw [if_neg hek] at h5; simp at h5

theorem backOk_spec : ∀ {r : List Oper} {i : Nat}, backOk r i = true → ∀ k o, r[k]? = some o → ∀ e ∈ edges o, e < i + k
  | [], i, _, k, o, ho => by simp at ho
  | a :: r, i, h, k, o, ho => by
    simp only [backOk, Bool.and_eq_true, List.all_eq_true] at h
    cases k with
    | zero =>
      simp at ho
      subst ho
      intro e he
      have := h.1 e he
      have h2 : e < i := by rwa [Nat.blt_eq] at this
      omega
    | succ k =>
      intro e he
      have := backOk_spec h.2 k o (by simpa using ho) e he
      omega

theorem okWith_spec : ∀ {pre : List DOper} {dk : DOper} {mk i : Nat}, okWith dk mk pre i = true → ∀ q d, pre[q]? = some d → conf d dk = true → mk.testBit (i + q) = true
  | [], dk, mk, i, _, q, d, hd, _ => by simp at hd
  | a :: pre, dk, mk, i, h, q, d, hd, hc => by
    simp only [okWith, Bool.and_eq_true, Bool.or_eq_true] at h
    cases q with
    | zero =>
      simp at hd
      subst hd
      rcases h.1 with h1 | h1
      · rw [hc] at h1; cases h1
      · exact h1
    | succ q =>
      have := okWith_spec h.2 q d (by simpa using hd) hc
      rwa [show i + 1 + q = i + (q + 1) by omega] at this

theorem okAll_spec : ∀ {r pre : List DOper} {ms : List Nat}, okAll pre r ms = true → ∀ k dk, r[k]? = some dk → ∃ mk, ms[k]? = some mk ∧ ∀ q d, q < pre.length + k → (pre ++ r)[q]? = some d → conf d dk = true → mk.testBit q = true
  | [], pre, ms, _, k, dk, hk => by simp at hk
  | a :: r, pre, [], h, _, _, _ => by simp [okAll] at h
  | a :: r, pre, m :: ms, h, k, dk, hk => by
    simp only [okAll, Bool.and_eq_true] at h
    cases k with
    | zero =>
      simp at hk
      subst hk
      refine ⟨m, rfl, fun q d hq hd hc => ?_⟩
      rw [List.getElem?_append_left (by omega)] at hd
      have := okWith_spec h.1 q d hd hc
      rwa [Nat.zero_add] at this
    | succ k =>
      obtain ⟨mk, h1, h2⟩ := okAll_spec h.2 k dk (by simpa using hk)
      refine ⟨mk, by simpa using h1, fun q d hq hd hc => h2 q d (by simp; omega) ?_ hc⟩
      rw [List.append_assoc]
      exact hd

theorem needB_mem {mk : Nat} : ∀ {pre : List DOper} {i q : Nat} {d : DOper}, pre[q]? = some d → isEff d.ins = true → mk.testBit (i + q) = false → i + q ∈ needB mk pre i
  | [], i, q, d, h, _, _ => by simp at h
  | a :: pre, i, q, d, h, he, hm => by
    simp only [needB]
    cases q with
    | zero =>
      simp at h
      subst h
      rw [Nat.add_zero] at hm
      simp [he, hm]
    | succ q =>
      have := needB_mem (mk := mk) (i := i + 1) (pre := pre) (q := q) (by simpa using h) he (by rwa [show i + 1 + q = i + (q + 1) by omega])
      rw [show i + (q + 1) = i + 1 + q by omega]
      split
      · exact List.mem_cons_of_mem _ this
      · exact this

theorem needF_mem {k : Nat} : ∀ {r : List DOper} {ms : List Nat} {i q m : Nat} {d : DOper}, r[q]? = some d → ms[q]? = some m → isEff d.ins = true → m.testBit k = false → i + q + 1 ∈ needF k r ms i
  | [], ms, i, q, m, d, h, _, _, _ => by simp at h
  | a :: r, [], i, q, m, d, _, h, _, _ => by simp at h
  | a :: r, b :: ms, i, q, m, d, h, hm, he, hb => by
    simp only [needF]
    cases q with
    | zero =>
      simp at h hm
      subst h; subst hm
      simp [he, hb]
    | succ q =>
      have := needF_mem (k := k) (i := i + 1) (r := r) (ms := ms) (q := q) (by simpa using h) (by simpa using hm) he hb
      rw [show i + (q + 1) + 1 = i + 1 + q + 1 by omega]
      split
      · exact List.mem_cons_of_mem _ this
      · exact this

/-- The same but for the places at which reads are asked again. -/
def Same (d d' : DOper) : Prop := d'.dst = d.dst ∧ d'.xs = d.xs ∧ d'.guard = d.guard ∧ isEff d'.ins = isEff d.ins ∧
  ((∃ r c c', d.ins = .read r c ∧ d'.ins = .read r c') ∨ d'.ins = d.ins)

theorem Same.refl (d : DOper) : Same d d := ⟨rfl, rfl, rfl, rfl, .inr rfl⟩

theorem fillChk_spec : ∀ {r pre : List DOper} {ms : List Nat} {k : Nat}, (fillChk pre r ms k).length = r.length ∧ ∀ q d, r[q]? = some d → ∃ d', (fillChk pre r ms k)[q]? = some d' ∧ Same d d' ∧
      ∀ ri c, d'.ins = .read ri c → c = needB (ms.getD (k + q) 0) (pre ++ r.take q) 0 ++ needF (k + q) (r.drop (q + 1)) (ms.drop (k + q + 1)) (k + q + 1)
  | [], pre, ms, k => ⟨rfl, fun q d h => by simp at h⟩
  | a :: r, pre, ms, k => by
    obtain ⟨h1, h2⟩ := fillChk_spec (r := r) (pre := pre ++ [a]) (ms := ms) (k := k + 1)
    simp only [fillChk]
    refine ⟨by simp [h1], fun q d hd => ?_⟩
    cases q with
    | zero =>
      simp only [List.getElem?_cons_zero, Option.some.injEq] at hd
      subst hd
      refine ⟨_, rfl, ?_, ?_⟩
      · split
        · rename_i ri c hin
          exact ⟨rfl, rfl, rfl, by simp only [hin, isEff], .inl ⟨ri, c, _, hin, rfl⟩⟩
        · exact Same.refl _
      · intro ri c hc
        split at hc
        · rename_i ri' c' hin
          simp only [Ins.read.injEq] at hc
          obtain ⟨_, rfl⟩ := hc
          simp
        · rename_i hno
          exact absurd hc (hno ri c)
    | succ q =>
      obtain ⟨d', g1, g2, g3⟩ := h2 q d (by simpa using hd)
      refine ⟨d', by simpa using g1, g2, fun ri c hc => ?_⟩
      rw [g3 ri c hc]
      rw [show k + 1 + q = k + (q + 1) by omega]
      simp

/-- What is asked of a compiled region. -/
structure RegComp (P : Program) (ngl N : Nat) (ops : Array Oper) (draw : Bool) (ds : List DOper) (flag : Bool) : Prop where
  size : ds.length = ops.size
  comp : ∀ i, i < ops.size → ∃ o, ops[i]? = some o ∧ CompOk P ngl N ops o (dAt ds i)
  any : draw = true → P.follows .mixedOrders = true ∧ backOk ops.toList 0 = true ∧ okAll [] ds (masks [] ops.toList) = true ∧
    (∃ ds0, ds = fillChk [] ds0 (masks [] ops.toList) 0 ∧ ds0.length = ds.length) ∧ (flag = false → flagged ds = false)

theorem flagged_false : ∀ {ds : List DOper}, flagged ds = false → ∀ (i : Nat) (d : DOper) (r : RI) (c : List Nat), ds[i]? = some d → d.ins = .read r c → c = []
  | [], _, i, d, r, c, h, _ => by simp at h
  | a :: ds, hf, i, d, r, c, h, hin => by
    simp only [flagged, Bool.or_eq_false_iff] at hf
    cases i with
    | zero =>
      simp at h
      subst h
      have h1 := hf.1
      rw [hin] at h1
      cases c with
      | nil => rfl
      | cons => simp at h1
    | succ i => exact flagged_false hf.2 i d r c (by simpa using h) hin

theorem chkOps_spec {hs : List Heap} : ∀ {ds : List DOper} {l : List (Fr × Heap × Value)}, ds.length = l.length → chkOps hs ds l = true → ∀ (i : Nat) (d : DOper) (x : Fr × Heap × Value) (r : RI) (c : List Nat), ds[i]? = some d → l[i]? = some x → d.ins = .read r c → wantD d.guard x.1.get = some true →
    ∀ q ∈ c, chkAt r (d.xs.map (ev x.1.get)) x.2.2 hs q = true
  | [], l, _, _, i, d, x, r, c, h, _, _, _ => by simp at h
  | a :: ds, [], hl, _, _, _, _, _, _, _, _, _, _ => by simp at hl
  | a :: ds, (fr, H, v) :: l, hl, hc, i, d, x, r, c, hd, hx, hin, hw => by
    simp only [chkOps, Bool.and_eq_true] at hc
    cases i with
    | zero =>
      simp at hd hx
      subst hd; subst hx
      have h1 := hc.1
      simp only at hw
      rw [hw, hin] at h1
      simpa [List.all_eq_true] using h1
    | succ i => exact chkOps_spec (by simpa using hl) hc.2 i d x r c (by simpa using hd) (by simpa using hx) hin hw

section
variable {P : Program} {ngl N : Nat} {cf : CallF} {ops : Array Oper} {ds : List DOper} {flag : Bool}

/-- The trace of a run. -/
def mkTrace {l : List (Fr × Heap × Value)} {fr fr' : Fr} {H H' : Heap} (h : traceOps cf ds fr H = some (l, fr', H')) : Trace cf ds.length (dAt ds) where
  g := fun i => (frAt l fr' i).get
  Hs := hpAt l H'
  val := vlAt l
  step := fun i hi => ((traceOps_spec h).2.2.2 i hi).1
  put := fun i hi t => by
    show (frAt l fr' (i + 1)).get t = _
    rw [((traceOps_spec h).2.2.2 i hi).2]
    cases hd : (dAt ds i).dst with
    | none => simp [putD]
    | some d =>
      simp only [putD, Trie.get_set, Option.some.injEq]
      by_cases e : t = d
      · subst e; simp
      · rw [if_neg e, if_neg (fun q => e q.symm)]

theorem reg_ok (C : RegComp P ngl N ops true ds flag) {l : List (Fr × Heap × Value)} {fr fr' : Fr} {H H' : Heap} (h : traceOps cf ds fr H = some (l, fr', H'))
    (hchk : flagged ds = false ∨ chkOps (l.map (·.2.1) ++ [H']) ds l = true) :
    RegOk P ngl N ops cf ds.length (dAt ds) (mkTrace h) (fun i k => ((masks [] ops.toList).getD k 0).testBit i = true) := by
  obtain ⟨_, hback, hok, ⟨ds0, hfill, hl0⟩, _⟩ := C.any rfl
  obtain ⟨hll, _, _, _⟩ := traceOps_spec h
  have hbk : ∀ i o, ops[i]? = some o → ∀ e ∈ o.after, Region.binds .any e = true → e.on < i := by
    intro i o ho e he hb
    have := backOk_spec hback i o (by simpa using ho) e.on (mem_edges.2 ⟨e, he, hb, rfl⟩)
    omega
  have hlt : ∀ k i, ((masks [] ops.toList).getD k 0).testBit i = true → i < k := by
    intro k
    induction k using Nat.strongRecOn with
    | _ k ih =>
      intro i hi
      obtain ⟨o, ho, e, he, h2⟩ := mask_bit hi
      have hek := backOk_spec hback k o ho e he
      rcases h2 with rfl | ⟨h3, h4⟩
      · omega
      · have := ih e h3 i h4; omega
  have hget : ∀ i, i < ds.length → ds[i]? = some (dAt ds i) := by
    intro i hi
    simp [dAt, hi]
  have hconf : ∀ i k, i < k → k < ds.length → conf (dAt ds i) (dAt ds k) = true → ((masks [] ops.toList).getD k 0).testBit i = true := by
    intro i k hik hk hc
    obtain ⟨mk, h1, h2⟩ := okAll_spec hok k (dAt ds k) (hget k hk)
    rw [List.getD_eq_getElem?_getD, h1]
    exact h2 i (dAt ds i) (by simpa using hik) (by simpa using hget i (by omega)) hc
  -- the places at which a read is asked again
  have hchkpos : ∀ k r c, k < ds.length → (dAt ds k).ins = .read r c → wantD (dAt ds k).guard ((mkTrace h).g k) = some true →
      (∀ e, e < k → isEff (dAt ds e).ins = true → ¬ ((masks [] ops.toList).getD k 0).testBit e = true → e ∈ c) ∧
      (∀ e, k < e → e < ds.length → isEff (dAt ds e).ins = true → ¬ ((masks [] ops.toList).getD e 0).testBit k = true → e + 1 ∈ c) := by
    intro k r c hk hin hw
    have hk0 : k < ds0.length := by omega
    obtain ⟨_, hspec⟩ := fillChk_spec (r := ds0) (pre := []) (ms := masks [] ops.toList) (k := 0)
    obtain ⟨d', g1, g2, g3⟩ := hspec k ds0[k] (List.getElem?_eq_getElem hk0)
    rw [← hfill, hget k hk] at g1
    cases g1
    have hc := g3 r c hin
    rw [Nat.zero_add, List.nil_append] at hc
    have heff : ∀ e, e < ds.length → isEff (dAt ds e).ins = isEff (ds0[e]?.map (·.ins) |>.getD .callv) := by
      intro e he
      have he0 : e < ds0.length := by omega
      obtain ⟨d2, q1, q2, _⟩ := hspec e ds0[e] (List.getElem?_eq_getElem he0)
      rw [← hfill, hget e he] at q1
      cases q1
      rw [q2.2.2.2.1]
      simp [he0]
    constructor
    · intro e hek he hb
      rw [hc]
      refine List.mem_append_left _ ?_
      have he0 : e < ds0.length := by omega
      have hee : isEff ds0[e].ins = true := by
        rw [heff e (by omega)] at he
        simpa [he0] using he
      have := needB_mem (mk := (masks [] ops.toList).getD k 0) (pre := ds0.take k) (i := 0) (q := e) (d := ds0[e]) (by rw [List.getElem?_take, if_pos hek, List.getElem?_eq_getElem he0]) hee (by rw [Nat.zero_add]; simpa using hb)
      rwa [Nat.zero_add] at this
    · intro e hke hel he hb
      rw [hc]
      refine List.mem_append_right _ ?_
      have he0 : e < ds0.length := by omega
      have hee : isEff ds0[e].ins = true := by
        rw [heff e hel] at he
        simpa [he0] using he
      obtain ⟨me, hme, _⟩ := okAll_spec hok e (dAt ds e) (hget e hel)
      rw [List.getD_eq_getElem?_getD, hme, Option.getD_some] at hb
      have := needF_mem (k := k) (r := ds0.drop (k + 1)) (ms := (masks [] ops.toList).drop (k + 1)) (i := k + 1) (q := e - (k + 1)) (m := me) (d := ds0[e])
        (by rw [List.getElem?_drop, show k + 1 + (e - (k + 1)) = e by omega, List.getElem?_eq_getElem he0]) (by rw [List.getElem?_drop, show k + 1 + (e - (k + 1)) = e by omega]; exact hme) hee (by simpa using hb)
      rwa [show k + 1 + (e - (k + 1)) + 1 = e + 1 by omega] at this
  have hheap : ∀ q, q ≤ ds.length → (l.map (·.2.1) ++ [H'])[q]? = some ((mkTrace h).Hs q) := by
    intro q hq
    show _ = some (hpAt l H' q)
    unfold hpAt
    by_cases h1 : q < l.length
    · rw [List.getElem?_append_left (by simpa using h1)]
      simp [h1]
    · have : q = l.length := by omega
      subst this
      rw [List.getElem?_append_right (by simp)]
      simp
  have hask : ∀ k r c q, k < ds.length → (dAt ds k).ins = .read r c → wantD (dAt ds k).guard ((mkTrace h).g k) = some true → q ∈ c → q ≤ ds.length → readSem r ((dAt ds k).xs.map (ev ((mkTrace h).g k))) ((mkTrace h).Hs q) = some ((mkTrace h).val k) := by
    intro k r c q hk hin hw hq hql
    rcases hchk with hf | hch
    · rw [flagged_false hf k _ r c (hget k hk) hin] at hq; cases hq
    · have hlk : k < l.length := by omega
      have hg : (mkTrace h).g k = l[k].1.get := by
        show (frAt l fr' k).get = _
        simp [frAt, hlk]
      have hv : (mkTrace h).val k = l[k].2.2 := by
        show vlAt l k = _
        simp [vlAt, hlk]
      rw [hg] at hw ⊢
      have := chkOps_spec hll.symm hch k (dAt ds k) l[k] r c (hget k hk) (List.getElem?_eq_getElem hlk) hin hw q hq
      unfold chkAt at this
      rw [hheap q hql] at this
      simp only at this
      split at this
      · rename_i u hu
        rw [hu, veq_eq this, hv]
      · cases this
  refine ⟨C.size.symm, ?_, ?_, hbk, fun i k => hlt k i, ?_, ?_, ?_, ?_⟩
  · intro i hi
    rw [C.size] at hi
    exact C.comp i hi
  · intro S hS i k hk hSk hb
    have main : ∀ k i, S k → ((masks [] ops.toList).getD k 0).testBit i = true → S i := by
      intro k
      induction k using Nat.strongRecOn with
      | _ k ih =>
        intro i hSk hi
        obtain ⟨o, ho, e, he, h2⟩ := mask_bit hi
        obtain ⟨x, hx1, hx2, rfl⟩ := mem_edges.1 he
        have hSe := hS k o hSk (by simpa using ho) x hx1 hx2
        rcases h2 with rfl | ⟨h3, h4⟩
        · exact hSe
        · exact ih _ h3 i hSe h4
    exact main k i hSk hb
  · intro i k hik hk hcase
    refine hconf i k hik hk ?_
    unfold conf
    rcases hcase with ⟨t, h1, h2⟩ | ⟨t, h1, h2⟩
    · rw [h1]
      rcases h2 with h2 | h2
      · simp [h2]
      · simp [h2]
    · rw [h1]
      simp [h2]
  · intro i k hik hk h1 h2
    refine hconf i k hik hk ?_
    unfold conf
    simp [h1, h2]
  · intro r c k e hk hin hw hek he hb
    exact hask k r c e hk hin hw ((hchkpos k r c hk hin hw).1 e hek he hb) (by omega)
  · intro r c k e hel hin hw hke he hb
    exact hask k r c (e + 1) (by omega) hin hw ((hchkpos k r c (by omega) hin hw).2 e hke hel he hb) (by omega)

end
end Go.Proofs.YtdpbbppjjjhnoaaGreatDoor.D
