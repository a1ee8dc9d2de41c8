/- The abstract machine "D": the instructions that read memory. No statement of the seat is proved in this text. -/
import Derived.Test.YtdpbbppjjjhnoaaGreatDoorDi
set_option linter.unusedSimpArgs false
set_option linter.unusedVariables false
namespace Go.Proofs.YtdpbbppjjjhnoaaGreatDoor.D
open Go

/-- What a map's keys are: one cell, or several. -/
inductive KK where
  | one (k : CK)
  | agg (ks : List CK)

def keyEq : KK → Value → Value → Option Bool
  | .one k, a, b => eq1 k a b
  | .agg ks, .agg a, .agg b => if a.size = ks.length ∧ b.size = ks.length then eqCells ks a.toList b.toList else none
  | _, _, _ => none

def keyOk : KK → Value → Bool
  | .one .i, .int _ _ | .one .s, .string _ | .one .b, .bool _ => true
  | .agg ks, .agg a => a.size == ks.length
  | _, _ => false

def findD (kk : KK) (k : Value) : List MapEntry → Nat → Option (Option (Nat × Value))
  | [], _ => some none
  | e :: es, i => match keyEq kk k e.key with
    | some true => some (some (i, e.val))
    | some false => findD kk k es (i + 1)
    | none => none

def bytesD : List Value → Option (List UInt8)
  | [] => some []
  | .int .u8 n :: l => match bytesD l with
    | some r => some (UInt8.ofNat n.toNat :: r)
    | none => none
  | _ :: _ => none

inductive RI where
  | load (n : Nat) (agg : Bool)
  | lookup (kk : KK) (zero : Value) (ok : Bool)
  | mlen | b2s

def readSem : RI → List Value → Heap → Option Value
  | .load n agg, [.pointer (some a)], H => match H.cells a n with
    | some cs => if agg then some (.agg ⟨cs⟩) else (match cs with | [v] => some v | _ => none)
    | none => none
  | .lookup kk zero ok, [.map none, k], _ => if keyOk kk k then some (if ok then .tuple #[zero, .bool false] else zero) else none
  | .lookup kk zero ok, [.map (some b), k], H => if keyOk kk k then (match H.get b with
    | some (.map es _) => (match findD kk k es 0 with
      | some (some (_, v)) => some (if ok then .tuple #[v, .bool true] else v)
      | some none => some (if ok then .tuple #[zero, .bool false] else zero)
      | none => none)
    | _ => none) else none
  | .mlen, [.map none], _ => some (goInt 0)
  | .mlen, [.map (some b)], H => match H.get b with
    | some (.map es _) => some (goInt es.length)
    | _ => none
  | .b2s, [.slice none _ _], _ => some (.string .empty)
  | .b2s, [.slice (some a) len _], H => match H.cells (toPtr a) len with
    | some cs => (match bytesD cs with | some l => some (.string ⟨⟨l⟩⟩) | none => none)
    | none => none
  | _, _, _ => none

def keyKind (P : Program) (t : TypeId) : Option KK :=
  match P.underlying t with
  | some .bool => some (.one .b)
  | some (.int _) => some (.one .i)
  | some .string => some (.one .s)
  | some (.struct _) | some (.array _ _) => (match plain P 100 t with | some ks => some (.agg ks) | none => none)
  | _ => none

def compileRead (P : Program) (o : Oper) : Option (RI × List Operand) :=
  match o.op with
  | .load t a => match P.underlying t, P.info? t with
    | some d, some i => if isAggD d then some (.load i.size true, [a]) else some (.load 1 false, [a])
    | _, _ => none
  | .lookup t m k ok => match P.underlying t with
    | some (.map kt et) => match keyKind P kt, (P.info? et).bind (·.zero) with
      | some kk, some z => if cst z then some (.lookup kk z ok, [m, k]) else none
      | _, _ => none
    | _ => none
  | .convert s d x => match P.underlying s, P.underlying d with
    | some (.slice e), some .string => (match P.underlying e with | some (.int .u8) => some (.b2s, [x]) | _ => none)
    | _, _ => none
  | .call { callee := .builtin .len, args, argTypes } => match args.toList, argTypes.toList with
    | [x], [t] => (match P.underlying t with | some (.map _ _) => some (.mlen, [x]) | _ => none)
    | _, _ => none
  | _ => none

/-! ### Keys -/

theorem keyEq_rel {n0 : Nat} {j : Inj} {kk : KK} {a b a' b' : Value} {r : Bool} (ha : VRel n0 j a a') (hb : VRel n0 j b b') (h : keyEq kk a b = some r) : keyEq kk a' b' = some r := by
  cases kk with
  | one k => exact eq1_rel ha hb h
  | agg ks =>
    cases a <;> simp only [keyEq] at h <;> first | (cases h; done) | skip
    cases b <;> simp only [keyEq] at h <;> first | (cases h; done) | skip
    split at h
    · rename_i hs
      obtain ⟨ca, rfl, hra⟩ := agg_of ha
      obtain ⟨cb, rfl, hrb⟩ := agg_of hb
      have h1 := hra.1
      have h2 := hrb.1
      simp only [Array.length_toList] at h1 h2
      simp only [keyEq]
      rw [if_pos (by omega)]
      exact eqCells_rel hra hrb h
    · cases h

theorem keyOk_rel {n0 : Nat} {j : Inj} {kk : KK} {a a' : Value} (ha : VRel n0 j a a') (h : keyOk kk a = true) : keyOk kk a' = true := by
  cases kk with
  | one k => cases ha <;> cases k <;> first | exact h | (simp [keyOk, undef] at h; done)
  | agg ks =>
    cases a <;> simp only [keyOk] at h <;> first | (cases h; done) | skip
    obtain ⟨ca, rfl, hra⟩ := agg_of ha
    have h1 := hra.1
    simp only [Array.length_toList] at h1
    simp only [keyOk, beq_iff_eq] at h ⊢
    omega

section
variable {P : Program}

theorem eq1_comm_bytes (a b : ByteArray) : (a == b) = (a.toList == b.toList) := beq_toListBytes a b

/-- The model's comparison of two keys. -/
theorem keyEq_equal {t : TypeId} {kk : KK} (hk : keyKind P t = some kk) {a b : Value} {r : Bool} (h : keyEq kk a b = some r) (w : World) : (Op.equal t a b).run P w = .ok r w := by
  unfold keyKind at hk
  split at hk
  · rename_i hu
    cases hk
    cases a <;> cases b <;> simp only [keyEq, eq1] at h <;> first | (cases h; done) | skip
    cases h
    exact run_equalIn_bool' w 9999 t _ _ hu
  · rename_i q hu
    cases hk
    cases a <;> cases b <;> simp only [keyEq, eq1] at h <;> first | (cases h; done) | skip
    split at h
    · rename_i hkk
      subst hkk
      cases h
      exact run_equalIn_int w 9999 t _ _ _ _ hu
    · cases h
  · rename_i hu
    cases hk
    cases a <;> cases b <;> simp only [keyEq, eq1] at h <;> first | (cases h; done) | skip
    cases h
    exact run_equalIn_string w 9999 t _ _ hu
  all_goals first
    | (rename_i hu
       split at hk
       · rename_i ks hks
         cases hk
         cases a <;> simp only [keyEq] at h <;> first | (cases h; done) | skip
         cases b <;> simp only [keyEq] at h <;> first | (cases h; done) | skip
         split at h
         · rename_i hs
           exact (plain_both 100 t ks hks).2 10000 (by omega) _ _ r (by omega) (by omega) h (fun u hu' => by rw [hu] at hu'; cases hu'; rfl) w
         · cases h
       · cases hk)
    | (cases hk; done)

theorem findAsking_eq {t : TypeId} {kk : KK} (hk : keyKind P t = some kk) {k : Value} : ∀ (es : List MapEntry) (i : Nat) (r : Option (Nat × Value)), findD kk k es i = some r →
    ∀ w, (Instr.findAsking t k es i).run P w = .ok r w
  | [], i, r, h, w => by cases h; rfl
  | e :: es, i, r, h, w => by
    simp only [findD] at h
    split at h
    · rename_i hq
      cases h
      simp [Instr.findAsking, keyEq_equal hk hq]
    · rename_i hq
      simp [Instr.findAsking, keyEq_equal hk hq, findAsking_eq hk es (i + 1) r h w]
    · cases h

theorem findNow_eq {d : TypeDesc} {ck : CK} (hd : (d = .bool ∧ ck = .b) ∨ ((∃ q, d = .int q) ∧ ck = .i) ∨ (d = .string ∧ ck = .s)) {k : Value} : ∀ (es : List MapEntry) (i : Nat) (r : Option (Nat × Value)), findD (.one ck) k es i = some r →
    Instr.findNow d k es i = some r
  | [], i, r, h => by cases h; rfl
  | e :: es, i, r, h => by
    have hs : ∀ {b}, eq1 ck k e.key = some b → Instr.sameNow d k e.key = some b := by
      intro b hb
      generalize e.key = y at hb
      rcases hd with ⟨rfl, rfl⟩ | ⟨⟨q, rfl⟩, rfl⟩ | ⟨rfl, rfl⟩
      · cases k <;> cases y <;> simp only [eq1] at hb <;> first | (cases hb; done) | exact hb
      · cases k <;> cases y <;> simp only [eq1] at hb <;> first | (cases hb; done) | skip
        split at hb
        · rename_i hkk; subst hkk; simpa [Instr.sameNow] using hb
        · cases hb
      · cases k <;> cases y <;> simp only [eq1] at hb <;> first | (cases hb; done) | skip
        simp only [Instr.sameNow, beq_toListBytes]; exact hb
    simp only [findD, keyEq] at h
    simp only [Instr.findNow]
    split at h
    · rename_i hq; cases h; rw [hs hq]
    · rename_i hq; rw [hs hq]; exact findNow_eq hd es (i + 1) r h
    · cases h

theorem findKey_eq {t : TypeId} {kk : KK} (hk : keyKind P t = some kk) {k : Value} {es : List MapEntry} {r : Option (Nat × Value)} (h : findD kk k es 0 = some r) (w : World) :
    (Instr.findKey t k es).run P w = .ok r w := by
  have hk0 := hk
  unfold keyKind at hk
  simp only [Instr.findKey, Sem.run_bind]
  split at hk
  · rename_i hu
    cases hk
    simp [run_underlying hu, findNow_eq (.inl ⟨rfl, rfl⟩) es 0 r h]
  · rename_i q hu
    cases hk
    simp [run_underlying hu, findNow_eq (.inr (.inl ⟨⟨q, rfl⟩, rfl⟩)) es 0 r h]
  · rename_i hu
    cases hk
    simp [run_underlying hu, findNow_eq (.inr (.inr ⟨rfl, rfl⟩)) es 0 r h]
  · rename_i fs hu
    rw [run_underlying hu, Result.andThen_ok]
    cases es with
    | nil => cases h; simp [Instr.findNow]
    | cons e es => simpa [Instr.findNow, Instr.sameNow] using findAsking_eq hk0 (e :: es) 0 r h w
  · rename_i n e' hu
    rw [run_underlying hu, Result.andThen_ok]
    cases es with
    | nil => cases h; simp [Instr.findNow]
    | cons e es => simpa [Instr.findNow, Instr.sameNow] using findAsking_eq hk0 (e :: es) 0 r h w
  · cases hk

/-- The check ahead of a key's use: nothing in it panics. -/
def CheckOk (P : Program) (d : Nat) (t : TypeId) (ks : List CK) : Prop :=
  ∀ (n : Nat), d ≤ n → ∀ (empty : Bool) (v : Value), ((∃ u, P.underlying t = some u ∧ isAggD u = true) → ∃ c, v = .agg c ∧ c.size = ks.length) → ∀ w, (Instr.checkKey empty n t v).run P w = .ok () w

theorem check_part {d : Nat} {t : TypeId} {m : List CK} {i : TypeInfo} (hm : plain P d t = some m) (hi : P.info? t = some i) (hsz : i.size = m.length) (ih : CheckOk P d t m) (n : Nat) (hn : d ≤ n) (empty : Bool) (cs : Array Value) (off : Nat) (hle : off + m.length ≤ cs.size) (w : World) :
    ((part t cs off).run P w).andThen (fun v w' => (Instr.checkKey empty n t v).run P w') = .ok () w := by
  have hu : ∃ u, P.underlying t = some u := by
    cases d with
    | zero => simp [plain] at hm
    | succ d =>
      simp only [plain] at hm
      cases hu : P.underlying t with
      | none => rw [hu] at hm; simp at hm
      | some u => exact ⟨u, rfl⟩
  obtain ⟨u, hu⟩ := hu
  cases ha : isAggD u with
  | true =>
    rw [part_agg hu ha hi cs off w, Result.andThen_ok]
    exact ih n hn empty _ (fun _ => ⟨_, rfl, by simp [hsz]; omega⟩) w
  | false =>
    have hlen : m.length = 1 := by
      cases d with
      | zero => simp [plain] at hm
      | succ d =>
        simp only [plain, hu] at hm
        cases u <;> simp [isAggD] at ha <;> simp at hm <;> subst hm <;> rfl
    have hlt : off < cs.size := by omega
    rw [part_one hu ha cs off (by simp [hlt] : cs[off]? = some cs[off]) w, Result.andThen_ok]
    exact ih n hn empty _ (fun ⟨u', h1, h2⟩ => by rw [hu] at h1; cases h1; rw [ha] at h2; cases h2) w

theorem check_fields (pl : TypeId → Option (List CK)) (d : Nat) (hpl : ∀ t m, pl t = some m → plain P d t = some m ∧ CheckOk P d t m) (n : Nat) (hn : d ≤ n) (empty : Bool) (cs : Array Value) :
    ∀ (fs : List Field) (o : Nat) (ks : List CK), plainFs P pl fs o = some ks → o + ks.length ≤ cs.size → ∀ w,
      (forIn (m := Sem) fs PUnit.unit (fun f _ => if f.name ≠ "_" then (do Instr.checkKey empty n f.type (← part f.type cs f.offset); pure (ForInStep.yield PUnit.unit)) else pure (ForInStep.yield PUnit.unit))).run P w = .ok PUnit.unit w
  | [], o, ks, h, hle, w => by simp
  | f :: fs, o, ks, h, hle, w => by
    simp only [plainFs] at h
    split at h
    · cases h
    · rename_i hname
      split at h
      · rename_i hoff
        split at h
        · rename_i m i hm hi
          split at h
          · rename_i hsz
            split at h
            · rename_i l hl
              cases h
              rw [List.length_append] at hle
              have hname' : f.name ≠ "_" := hname
              obtain ⟨h1, h2⟩ := hpl _ _ hm
              have hp := check_part h1 hi hsz h2 n hn empty cs o (by omega) w
              have ih := check_fields pl d hpl n hn empty cs fs (o + m.length) l hl (by omega) w
              cases hpt : (part f.type cs o).run P w with
              | halt x w1 => rw [hpt] at hp; simp [Result.andThen] at hp
              | ok v w1 =>
                rw [hpt] at hp
                simp only [Result.andThen_ok] at hp
                rw [List.forIn_cons, if_pos hname']
                simp only [Sem.run_bind, hoff, hpt, Result.andThen_ok, hp, Sem.run_pure]
                exact ih
            · cases h
          · cases h
        · cases h
      · cases h

theorem check_items (d : Nat) (m : List CK) {e : TypeId} {i : TypeInfo} (hm : plain P d e = some m) (hi : P.info? e = some i) (hsz : i.size = m.length) (ih : CheckOk P d e m) (n : Nat) (hn : d ≤ n) (empty : Bool) (cs : Array Value) :
    ∀ (k s : Nat), (s + k) * m.length ≤ cs.size → ∀ w,
      (forIn (m := Sem) (List.range' s k) PUnit.unit (fun q _ => do Instr.checkKey empty n e (← part e cs (q * (← sizeOf e))); pure (ForInStep.yield PUnit.unit))).run P w = .ok PUnit.unit w
  | 0, s, _, w => by simp
  | k + 1, s, hle, w => by
    have hb : s * m.length + m.length ≤ cs.size := by
      have : (s + 1) * m.length ≤ (s + (k + 1)) * m.length := Nat.mul_le_mul_right _ (by omega)
      rw [Nat.add_mul, Nat.one_mul] at this
      omega
    have hp := check_part hm hi hsz ih n hn empty cs (s * m.length) hb w
    have ih2 := check_items d m hm hi hsz ih n hn empty cs k (s + 1) (by rw [show s + 1 + k = s + (k + 1) by omega]; exact hle) w
    cases hpt : (part e cs (s * m.length)).run P w with
    | halt x w1 => rw [hpt] at hp; simp [Result.andThen] at hp
    | ok v w1 =>
      rw [hpt] at hp
      simp only [Result.andThen_ok] at hp
      rw [List.range'_succ, List.forIn_cons]
      simp only [Sem.run_bind, run_sz hi, hsz, hpt, Result.andThen_ok, hp, Sem.run_pure]
      exact ih2

theorem check_plain : ∀ (d : Nat) (t : TypeId) (ks : List CK), plain P d t = some ks → CheckOk P d t ks
  | 0, t, ks, h => by simp [plain] at h
  | d + 1, t, ks, h => by
    intro n hn empty v hv w
    obtain ⟨n, rfl⟩ : ∃ q, n = q + 1 := ⟨n - 1, by omega⟩
    simp only [plain] at h
    split at h
    · rename_i hu; simp only [Instr.checkKey, Sem.run_bind, run_underlying hu, Result.andThen_ok]; cases v <;> rfl
    · rename_i hu; simp only [Instr.checkKey, Sem.run_bind, run_underlying hu, Result.andThen_ok]; cases v <;> rfl
    · rename_i hu; simp only [Instr.checkKey, Sem.run_bind, run_underlying hu, Result.andThen_ok]; cases v <;> rfl
    · rename_i fs hu
      split at h
      · cases h
      · obtain ⟨c, rfl, hc⟩ := hv ⟨_, hu, rfl⟩
        have := check_fields (P := P) (plain P d) d (fun t m hm => ⟨hm, check_plain d t m hm⟩) n (by omega) empty c fs.toList 0 ks h (by omega) w
        simp only [Instr.checkKey, Sem.run_bind, run_underlying hu, Result.andThen_ok]
        rw [← Array.forIn_toList]
        simp at this
        simp [this]
    · rename_i len e hu
      split at h
      · rename_i m i hm hi
        split at h
        · rename_i hsz
          cases h
          obtain ⟨c, rfl, hc⟩ := hv ⟨_, hu, rfl⟩
          have hlen : (List.replicate len m).flatten.length = len * m.length := by simp
          have := check_items (P := P) d m hm hi hsz (check_plain d e m hm) n (by omega) empty c len 0 (by rw [Nat.zero_add]; omega) w
          simp only [Instr.checkKey, Sem.run_bind, run_underlying hu, Result.andThen_ok]
          simp only [Std.Legacy.Range.forIn_eq_forIn_range', Std.Legacy.Range.size, Nat.sub_zero, Nat.add_one_sub_one, Nat.div_one]
          simp at this
          simp [this]
        · cases h
      · cases h
    · cases h

theorem checkKey_ok {t : TypeId} {kk : KK} (hk : keyKind P t = some kk) {k : Value} (h : keyOk kk k = true) (empty : Bool) (w : World) : (Instr.checkKey empty 10000 t k).run P w = .ok () w := by
  have main : ∀ n, 100 ≤ n → (Instr.checkKey empty n t k).run P w = .ok () w := by
    intro n hn
    obtain ⟨n, rfl⟩ : ∃ q, n = q + 1 := ⟨n - 1, by omega⟩
    unfold keyKind at hk
    split at hk
    · rename_i hu; simp only [Instr.checkKey, Sem.run_bind, run_underlying hu, Result.andThen_ok]; cases k <;> rfl
    · rename_i hu; simp only [Instr.checkKey, Sem.run_bind, run_underlying hu, Result.andThen_ok]; cases k <;> rfl
    · rename_i hu; simp only [Instr.checkKey, Sem.run_bind, run_underlying hu, Result.andThen_ok]; cases k <;> rfl
    · split at hk
      · rename_i ks hks
        cases hk
        refine check_plain 100 t ks hks (n + 1) hn empty k (fun _ => ?_) w
        cases k <;> simp only [keyOk] at h <;> first | (cases h; done) | exact ⟨_, rfl, by simpa using h⟩
      · cases hk
    · split at hk
      · rename_i ks hks
        cases hk
        refine check_plain 100 t ks hks (n + 1) hn empty k (fun _ => ?_) w
        cases k <;> simp only [keyOk] at h <;> first | (cases h; done) | exact ⟨_, rfl, by simpa using h⟩
      · cases hk
    · cases hk
  exact main 10000 (by omega)

/-! ### Reading, soundly -/

theorem findD_rel {n0 : Nat} {j : Inj} {kk : KK} {k k' : Value} (hk : VRel n0 j k k') : ∀ {es es' : List MapEntry} {i : Nat} {r : Option (Nat × Value)}, ERel n0 j es es' → findD kk k es i = some r →
    ∃ r', findD kk k' es' i = some r' ∧ (r = none → r' = none) ∧ (∀ q v, r = some (q, v) → ∃ v', r' = some (q, v') ∧ VRel n0 j v v')
  | [], es', i, r, hE, h => by
    have : es' = [] := by have := hE.1; cases es' <;> simp at this; rfl
    subst this
    cases h
    exact ⟨none, rfl, fun _ => rfl, fun q v e => by cases e⟩
  | e :: es, es', i, r, hE, h => by
    cases es' with
    | nil => have := hE.1; simp at this
    | cons e' es' =>
      obtain ⟨h1, h2, h3⟩ := hE.2 0 e e' rfl rfl
      have ht : ERel n0 j es es' := ⟨by have := hE.1; simpa using this, fun q a b ha hb => hE.2 (q + 1) a b (by simpa using ha) (by simpa using hb)⟩
      simp only [findD] at h ⊢
      split at h
      · rename_i hq
        rw [keyEq_rel hk h1 hq]
        cases h
        exact ⟨_, rfl, fun e => by (cases e), fun q v e => by cases e; exact ⟨_, rfl, h2⟩⟩
      · rename_i hq
        rw [keyEq_rel hk h1 hq]
        exact findD_rel hk ht h
      · cases h

theorem bytesD_run {n0 : Nat} {j : Inj} : ∀ {l l' : List Value} {r : List UInt8} (s : ByteArray), LRel n0 j l l' → bytesD l = some r → ∀ w,
    (forIn (m := Sem) l' s (fun c s => match c with
      | .int .u8 n => pure (ForInStep.yield (s.push (UInt8.ofNat n.toNat)))
      | _ => do stuck "bytesToString: byte expected"; pure (ForInStep.yield s))).run P w = .ok ⟨⟨s.data.toList ++ r⟩⟩ w
  | [], l', r, s, hl, h, w => by
    rw [hl.nil_inv]
    cases h
    obtain ⟨⟨d⟩⟩ := s
    simp
  | v :: l, l', r, s, hl, h, w => by
    obtain ⟨v', t, rfl, hv, ht⟩ := hl.uncons
    have hb : ∃ n q, v = .int .u8 n ∧ bytesD l = some q ∧ r = UInt8.ofNat n.toNat :: q := by
      unfold bytesD at h
      split at h
      · rename_i heq; cases heq
      · rename_i n l2 heq
        cases heq
        split at h
        · rename_i q hq; cases h; exact ⟨n, q, rfl, hq, rfl⟩
        · cases h
      · cases h
    obtain ⟨n, q, rfl, hq, rfl⟩ := hb
    rw [int_of hv, List.forIn_cons]
    have ih := bytesD_run (s.push (UInt8.ofNat n.toNat)) ht hq w
    simp only [Sem.run_bind, Sem.run_pure, Result.andThen_ok]
    rw [ih]
    congr 3
    obtain ⟨⟨d⟩⟩ := s
    simp [ByteArray.push]

variable {w0 : World} {ng top : Nat} {j : Inj} {H : Heap} {w : World}

theorem read_sound (R : Rel w0 ng top j H w) {o : Oper} {p : RI} {xs : List Operand} (hc : compileRead P o = some (p, xs)) {ρ : Operand → Value} {vs : List Value} (hv : LRel w0.heap.size j vs (xs.map ρ))
    {v : Value} (h : readSem p vs H = some v) : ∃ v', (execOp ρ o).run P w = .ok (.value v') w ∧ VRel w0.heap.size j v v' := by
  obtain ⟨dst, op, type, pos, after, guard⟩ := o
  unfold compileRead at hc
  simp only at hc
  split at hc
  · -- load
    rename_i t a
    split at hc
    · rename_i d i hu hi
      split at hc
      · rename_i ha
        cases hc
        obtain ⟨x, rfl, hx⟩ := lr1 hv
        cases x <;> simp only [readSem] at h <;> first | (cases h; done) | skip
        rename_i q
        cases q <;> simp only [readSem] at h <;> first | (cases h; done) | skip
        rename_i ad
        split at h
        · rename_i cs hcs
          cases h
          obtain ⟨a', he, har⟩ := ptr_of hx
          obtain ⟨cs', hr, hrel⟩ := run_cells (P := P) R har hcs
          refine ⟨.agg cs', ?_, LRel.agg hrel⟩
          simp only [execOp, Instr.loadAt, he, Instr.sureAddr, loadVar, Sem.run_bind, Sem.run_pure, Result.andThen_ok, run_isAgg hu, ha, if_true, run_sz hi, hr]
        · cases h
      · rename_i ha
        cases hc
        obtain ⟨x, rfl, hx⟩ := lr1 hv
        cases x <;> simp only [readSem] at h <;> first | (cases h; done) | skip
        rename_i q
        cases q <;> simp only [readSem] at h <;> first | (cases h; done) | skip
        rename_i ad
        split at h
        · rename_i cs hcs
          simp only [Bool.false_eq_true, if_false] at h
          split at h
          · rename_i v1
            cases h
            obtain ⟨a', he, har⟩ := ptr_of hx
            obtain ⟨_, cs', hl', hrel, hcell⟩ := cells_sound R har hcs
            obtain ⟨v', t', e', hv', _⟩ := hrel.uncons
            subst e'
            have hc0 := hcell 0 v' rfl
            rw [har.add_eq 0, Nat.add_zero] at hc0
            have hsp := har.spot
            have ea : (⟨a'.block, a'.off, none⟩ : Addr) = a' := by cases a'; simp at hsp; subst hsp; rfl
            rw [ea] at hc0
            refine ⟨v', ?_, hv'⟩
            have ha' : isAggD d = false := by simpa using ha
            simp only [execOp, Instr.loadAt, he, Instr.sureAddr, loadVar, Sem.run_bind, Sem.run_pure, Result.andThen_ok, run_isAgg hu, ha', Bool.false_eq_true, if_false]
            simp [load, Sem.run, hc0, Result.andThen]
          · cases h
        · cases h
    · cases hc
  · -- lookup
    rename_i t m k ok
    split at hc
    · rename_i kt et hu
      split at hc
      · rename_i kk z hkk hz
        split at hc
        · rename_i hcz
          cases hc
          obtain ⟨zi, hzi, hzz⟩ : ∃ i, P.info? et = some i ∧ i.zero = some z := by
            cases hi : P.info? et with
            | none => rw [hi] at hz; simp at hz
            | some i => rw [hi] at hz; exact ⟨i, rfl, hz⟩
          have hzr : VRel w0.heap.size j z z := cst_rel hcz
          obtain ⟨a, b, rfl, ha, hb⟩ := lr2 hv
          have htup : ∀ (x x' : Value) (q : Bool), VRel w0.heap.size j x x' → VRel w0.heap.size j (.tuple #[x, .bool q]) (.tuple #[x', .bool q]) := fun x x' q hx =>
            LRel.tuple (LRel.cons hx (LRel.cons (.bool q) LRel.nil))
          cases a <;> simp only [readSem] at h <;> first | (cases h; done) | skip
          rename_i q
          cases q with
          | none =>
            simp only [readSem] at h
            split at h
            · rename_i hok
              have hm : ρ m = .map none := by
                generalize ρ m = y at ha
                cases ha; rfl
              have hck := checkKey_ok hkk (keyOk_rel hb hok)
              have hfind : ∀ w, (Instr.findKey kt (ρ k) []).run P w = .ok none w := findKey_eq hkk rfl
              cases ok
              · simp only [Bool.false_eq_true, if_false, Option.some.injEq] at h
                subst h
                refine ⟨z, ?_, hzr⟩
                simp only [execOp, Instr.lookup, hm, Sem.run_bind, Sem.run_pure, Result.andThen_ok, run_underlying hu]
                simp [hck, hfind, run_zero hzi hzz]
              · simp only [if_true, Option.some.injEq] at h
                subst h
                refine ⟨.tuple #[z, .bool false], ?_, htup _ _ _ hzr⟩
                simp only [execOp, Instr.lookup, hm, Sem.run_bind, Sem.run_pure, Result.andThen_ok, run_underlying hu]
                simp [hck, hfind, run_zero hzi hzz]
            · cases h
          | some b0 =>
            simp only [readSem] at h
            split at h
            · rename_i hok
              split at h
              · rename_i es ck hg
                obtain ⟨i, hji, hm⟩ : ∃ i, j b0 = some i ∧ ρ m = .map (some i.rb) := by
                  generalize ρ m = y at ha
                  cases ha with
                  | map _ i hi => exact ⟨i, hi, rfl⟩
                have hB := R.blk b0 i hji
                rw [hg] at hB
                obtain ⟨_, es', hh, hE⟩ := hB
                have hget : ∀ w', w' = w → (getObj i.rb).run P w' = .ok (.map es' ck) w' := by
                  rintro w' rfl
                  simp [getObj, Sem.run, hh]
                have hck := checkKey_ok hkk (keyOk_rel hb hok)
                split at h
                · rename_i q1 v1 hf
                  obtain ⟨r', hr1, _, hr3⟩ := findD_rel hb hE hf
                  obtain ⟨v', he', hv'⟩ := hr3 _ _ rfl
                  subst he'
                  have hfind := findKey_eq hkk hr1
                  cases ok
                  · simp only [Bool.false_eq_true, if_false, Option.some.injEq] at h
                    subst h
                    refine ⟨v', ?_, hv'⟩
                    simp only [execOp, Instr.lookup, hm, Sem.run_bind, Sem.run_pure, Result.andThen_ok, run_underlying hu]
                    simp [hget w rfl, hck, hfind]
                  · simp only [if_true, Option.some.injEq] at h
                    subst h
                    refine ⟨.tuple #[v', .bool true], ?_, htup _ _ _ hv'⟩
                    simp only [execOp, Instr.lookup, hm, Sem.run_bind, Sem.run_pure, Result.andThen_ok, run_underlying hu]
                    simp [hget w rfl, hck, hfind]
                · rename_i hf
                  obtain ⟨r', hr1, hr2, _⟩ := findD_rel hb hE hf
                  rw [hr2 rfl] at hr1
                  have hfind := findKey_eq hkk hr1
                  cases ok
                  · simp only [Bool.false_eq_true, if_false, Option.some.injEq] at h
                    subst h
                    refine ⟨z, ?_, hzr⟩
                    simp only [execOp, Instr.lookup, hm, Sem.run_bind, Sem.run_pure, Result.andThen_ok, run_underlying hu]
                    simp [hget w rfl, hck, hfind, run_zero hzi hzz]
                  · simp only [if_true, Option.some.injEq] at h
                    subst h
                    refine ⟨.tuple #[z, .bool false], ?_, htup _ _ _ hzr⟩
                    simp only [execOp, Instr.lookup, hm, Sem.run_bind, Sem.run_pure, Result.andThen_ok, run_underlying hu]
                    simp [hget w rfl, hck, hfind, run_zero hzi hzz]
                · cases h
              · cases h
            · cases h
        · cases hc
      · cases hc
    · cases hc
  · -- bytes to a text
    rename_i s d x
    split at hc
    · rename_i e hs hd
      split at hc
      · rename_i he
        cases hc
        obtain ⟨a, rfl, ha⟩ := lr1 hv
        cases a <;> simp only [readSem] at h <;> first | (cases h; done) | skip
        rename_i q len cap
        cases q with
        | none =>
          simp only [readSem, Option.some.injEq] at h
          subst h
          have hx : ρ x = .slice none 0 0 := by
            generalize ρ x = y at ha
            cases ha; rfl
          refine ⟨.string .empty, ?_, .string _⟩
          simp only [execOp, hx, convert, Sem.run_bind, run_underlying hs, run_underlying hd, Result.andThen_ok, run_underlying he, Conv.bytesToString, Sem.run_pure]
        | some ad =>
          simp only [readSem] at h
          split at h
          · rename_i cs hcs
            split at h
            · rename_i l hl
              cases h
              have hx : ∃ a' cap', ρ x = .slice (some a') len cap' ∧ ((len = 0) ∨ ARel w0.heap.size j (toPtr ad) a') := by
                by_cases h0 : len = 0
                · generalize ρ x = y at ha
                  cases ha with
                  | slice0 a' => exact ⟨a', 0, rfl, .inl rfl⟩
                  | slice _ a' _ _ h1 h2 => exact ⟨a', cap, rfl, .inl h0⟩
                  | uslice b o _ cap' a' i h1 h2 h3 => exact ⟨a', cap', rfl, .inl h0⟩
                · obtain ⟨a', cap', e, h1⟩ := slice_elem ha (by omega)
                  exact ⟨a', cap', e, .inr h1⟩
              obtain ⟨a', cap', hx, har⟩ := hx
              obtain ⟨cs', hr, hrel⟩ : ∃ cs' : Array Value, (loadCells a' len).run P w = .ok cs' w ∧ LRel w0.heap.size j cs cs'.toList := by
                rcases har with h0 | har
                · subst h0
                  refine ⟨#[], rfl, ?_⟩
                  have : cs = [] := by
                    have hh : ∀ (x : List Value), takeN x 0 = some [] := fun x => by cases x <;> rfl
                    unfold Heap.cells at hcs
                    split at hcs
                    · split at hcs
                      · rw [hh] at hcs; cases hcs; rfl
                      · cases hcs
                    · simp [rdBase] at hcs; exact hcs
                    · cases hcs
                  subst this
                  exact LRel.nil
                · exact run_cells (P := P) R har hcs
              have hb := bytesD_run (P := P) (s := ByteArray.empty) hrel hl w
              refine ⟨.string ⟨⟨l⟩⟩, ?_, .string _⟩
              simp only [execOp, hx, convert, Sem.run_bind, run_underlying hs, run_underlying hd, Result.andThen_ok, run_underlying he, Conv.bytesToString, hr]
              rw [← Array.forIn_toList]
              exact congrArg (fun r : Result ByteArray => (r.andThen fun a w' => Sem.run P (pure (Value.string a)) w').andThen fun a w' => Sem.run P (pure (Next.value a)) w') hb
            · cases h
          · cases h
      · cases hc
    · cases hc
  · -- how many entries a map has
    rename_i args argTypes
    split at hc
    · rename_i x t hargs htys
      have e1 : args = #[x] := by cases args; simp_all
      have e2 : argTypes = #[t] := by cases argTypes; simp_all
      subst e1; subst e2
      split at hc
      · rename_i kt et hu
        cases hc
        obtain ⟨a, rfl, ha⟩ := lr1 hv
        cases a <;> simp only [readSem] at h <;> first | (cases h; done) | skip
        rename_i q
        cases q with
        | none =>
          simp only [readSem, Option.some.injEq] at h
          subst h
          have hx : ρ x = .map none := by
            generalize ρ x = y at ha
            cases ha; rfl
          refine ⟨_, ?_, .int _ _⟩
          simp only [execOp, resolve, List.map_toArray, List.map_cons, List.map_nil, hx, Sem.run_bind, Sem.run_pure, Result.andThen_ok, invoke, builtin, Builtin.len_, run_underlying hu]
          simp [run_underlying hu, goInt]
        | some b0 =>
          simp only [readSem] at h
          split at h
          · rename_i es ck hg
            cases h
            obtain ⟨i, hji, hm⟩ : ∃ i, j b0 = some i ∧ ρ x = .map (some i.rb) := by
              generalize ρ x = y at ha
              cases ha with
              | map _ i hi => exact ⟨i, hi, rfl⟩
            have hB := R.blk b0 i hji
            rw [hg] at hB
            obtain ⟨_, es', hh, hE⟩ := hB
            have hget : (getObj i.rb).run P w = .ok (.map es' ck) w := by simp [getObj, Sem.run, hh]
            have hsz : es.length = es'.size := by have := hE.1; simpa using this
            refine ⟨goInt es.length, ?_, .int _ _⟩
            simp only [execOp, resolve, List.map_toArray, List.map_cons, List.map_nil, hm, Sem.run_bind, Sem.run_pure, Result.andThen_ok, invoke, builtin, Builtin.len_, run_underlying hu]
            simp [run_underlying hu, hget, hsz]
          · cases h
      · cases hc
    · cases hc
  · cases hc

end
end Go.Proofs.YtdpbbppjjjhnoaaGreatDoor.D
