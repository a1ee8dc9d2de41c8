/- The abstract machine "D": comparing cell by cell is what the model's comparison does. No statement of the seat is proved in this text. -/
import Derived.Test.YtdpbbppjjjhnoaaGreatDoorDd
namespace Go.Proofs.YtdpbbppjjjhnoaaGreatDoor.D
open Go

theorem eq1_rel {n0 : Nat} {j : Inj} {k : CK} {a b a' b' : Value} {r : Bool} (ha : VRel n0 j a a') (hb : VRel n0 j b b') (h : eq1 k a b = some r) : eq1 k a' b' = some r := by
  cases ha <;> cases hb <;> first | exact h | (cases k <;> simp [eq1, undef] at h; done)

theorem eqCells_rel {n0 : Nat} {j : Inj} : ∀ {ks : List CK} {l r l' r' : List Value} {b : Bool}, LRel n0 j l l' → LRel n0 j r r' → eqCells ks l r = some b → eqCells ks l' r' = some b
  | [], [], [], l', r', b, h1, h2, h => by rw [h1.nil_inv, h2.nil_inv]; exact h
  | [], [], y :: r, l', r', b, _, _, h => by simp [eqCells] at h
  | [], x :: l, _, l', r', b, _, _, h => by simp [eqCells] at h
  | k :: ks, [], _, l', r', b, _, _, h => by simp [eqCells] at h
  | k :: ks, x :: l, [], l', r', b, _, _, h => by simp [eqCells] at h
  | k :: ks, x :: l, y :: r, l', r', b, h1, h2, h => by
    obtain ⟨x', l1, rfl, hx, hl⟩ := h1.uncons
    obtain ⟨y', r1, rfl, hy, hr⟩ := h2.uncons
    simp only [eqCells] at h ⊢
    cases he : eq1 k x y with
    | none => rw [he] at h; simp at h
    | some q =>
      rw [he] at h
      rw [eq1_rel hx hy he]
      cases q
      · exact h
      · exact eqCells_rel hl hr h

theorem eqCells_append : ∀ {k1 k2 : List CK} {a c b d : List Value} {r : Bool}, a.length = k1.length → c.length = k1.length → eqCells (k1 ++ k2) (a ++ b) (c ++ d) = some r →
    (eqCells k1 a c = some true ∧ eqCells k2 b d = some r) ∨ (eqCells k1 a c = some false ∧ r = false)
  | [], _, [], [], b, d, r, _, _, h => .inl ⟨rfl, h⟩
  | [], _, _ :: _, _, _, _, _, h, _, _ => by simp at h
  | [], _, [], _ :: _, _, _, _, _, h, _ => by simp at h
  | _ :: _, _, [], _, _, _, _, h, _, _ => by simp at h
  | _ :: _, _, _ :: _, [], _, _, _, _, h, _ => by simp at h
  | k :: k1, k2, x :: a, y :: c, b, d, r, h1, h2, h => by
    simp only [List.cons_append, eqCells] at h ⊢
    cases he : eq1 k x y with
    | none => rw [he] at h; simp at h
    | some q =>
      rw [he] at h
      cases q
      · right; exact ⟨rfl, by simpa using h.symm⟩
      · exact eqCells_append (by simpa using h1) (by simpa using h2) h

theorem take_split (l : List Value) (off m n : Nat) : (l.drop off).take (m + n) = (l.drop off).take m ++ (l.drop (off + m)).take n := by
  rw [List.take_add, List.drop_drop]

section
variable {P : Program}

def PlainOk (P : Program) (d : Nat) (t : TypeId) (ks : List CK) : Prop :=
  ∀ (D : Nat), d ≤ D → ∀ (xs ys : Array Value) (off : Nat) (r : Bool), off + ks.length ≤ xs.size → off + ks.length ≤ ys.size → (∃ i, P.info? t = some i ∧ i.size = ks.length) →
    eqCells ks ((xs.toList.drop off).take ks.length) ((ys.toList.drop off).take ks.length) = some r →
    ∃ a b, (∀ w, (part t xs off).run P w = .ok a w) ∧ (∀ w, (part t ys off).run P w = .ok b w) ∧ ∀ w, (Op.equalIn D t a b).run P w = .ok r w

/-- The same of a whole struct or array. -/
def PlainAll (P : Program) (d : Nat) (t : TypeId) (ks : List CK) : Prop :=
  ∀ (D : Nat), d ≤ D → ∀ (xs ys : Array Value) (r : Bool), ks.length = xs.size → ks.length = ys.size → eqCells ks xs.toList ys.toList = some r →
    (∀ u, P.underlying t = some u → isAggD u = true) → ∀ w, (Op.equalIn D t (.agg xs) (.agg ys)).run P w = .ok r w

theorem extract_toList (xs : Array Value) (off n : Nat) : (xs.extract off (off + n)).toList = (xs.toList.drop off).take n := by
  rw [Array.toList_extract, List.extract_eq_take_drop]; congr 1; omega

theorem part_agg {t : TypeId} {d : TypeDesc} {i : TypeInfo} (hu : P.underlying t = some d) (ha : isAggD d = true) (hi : P.info? t = some i) (xs : Array Value) (off : Nat) (w : World) :
    (part t xs off).run P w = .ok (.agg (xs.extract off (off + i.size))) w := by
  simp only [part, Sem.run_bind, run_isAgg hu, Result.andThen_ok, ha, if_true, run_sz hi]
  rfl

theorem part_one {t : TypeId} {d : TypeDesc} (hu : P.underlying t = some d) (ha : isAggD d = false) (xs : Array Value) (off : Nat) {v : Value} (hv : xs[off]? = some v) (w : World) :
    (part t xs off).run P w = .ok v w := by
  simp only [part, Sem.run_bind, run_isAgg hu, Result.andThen_ok, ha, hv]
  rfl

theorem eqFields_plain (pl : TypeId → Option (List CK)) (d : Nat) (hpl : ∀ t m, pl t = some m → PlainOk P d t m) (D : Nat) (hD : d ≤ D) (xs ys : Array Value) :
    ∀ (fs : List Field) (n : Nat) (ks : List CK), plainFs P pl fs n = some ks → n + ks.length ≤ xs.size → n + ks.length ≤ ys.size → ∀ (r : Bool), eqCells ks ((xs.toList.drop n).take ks.length) ((ys.toList.drop n).take ks.length) = some r →
      ∀ w, (Op.eqFields D xs ys fs).run P w = .ok r w
  | [], n, ks, h, hx, hy, r, he, w => by
    simp only [plainFs, Option.some.injEq] at h
    subst h
    simp [eqCells] at he
    subst he
    simp [Op.eqFields]
  | f :: fs, n, ks, h, hx, hy, r, he, w => by
    simp only [plainFs] at h
    split at h
    · cases h
    · rename_i hname
      split at h
      · rename_i hoff
        split at h
        · rename_i m i hm hi
          split at h
          · rename_i hsz
            split at h
            · rename_i l hl
              cases h
              rw [List.length_append] at hx hy he
              rw [take_split, take_split] at he
              have hname' : f.name ≠ "_" := hname
              have hpart := hpl f.type m hm D hD xs ys f.offset
              rw [hoff] at hpart
              rcases eqCells_append (by simp; omega) (by simp; omega) he with ⟨h1, h2⟩ | ⟨h1, h2⟩
              · obtain ⟨a, b, pa, pb, pe⟩ := hpart true (by omega) (by omega) ⟨i, hi, hsz⟩ h1
                have ih := eqFields_plain pl d hpl D hD xs ys fs (n + m.length) l hl (by omega) (by omega) r h2 w
                simp only [Op.eqFields, if_pos hname', Sem.run_bind, hoff, pa, pb, pe, Result.andThen_ok]
                simpa using ih
              · obtain ⟨a, b, pa, pb, pe⟩ := hpart false (by omega) (by omega) ⟨i, hi, hsz⟩ h1
                subst h2
                simp only [Op.eqFields, if_pos hname', Sem.run_bind, hoff, pa, pb, pe, Result.andThen_ok]
                simp
            · cases h
          · cases h
        · cases h
      · cases h

theorem eqItems_plain (d : Nat) (m : List CK) {e : TypeId} {i : TypeInfo} (hi : P.info? e = some i) (hsz : i.size = m.length) (hpl : PlainOk P d e m) (D : Nat) (hD : d ≤ D) (xs ys : Array Value) :
    ∀ (k s : Nat), (s + k) * m.length ≤ xs.size → (s + k) * m.length ≤ ys.size → ∀ (r : Bool),
      eqCells (List.replicate k m).flatten ((xs.toList.drop (s * m.length)).take (k * m.length)) ((ys.toList.drop (s * m.length)).take (k * m.length)) = some r →
      ∀ w, (Op.eqItems D e (P.cellsOf e) xs ys (List.range' s k)).run P w = .ok r w
  | 0, s, _, _, r, he, w => by
    simp [eqCells] at he
    subst he
    simp [Op.eqItems]
  | k + 1, s, hx, hy, r, he, w => by
    have e0 : s + (k + 1) = (s + 1) + k := by omega
    have e1 : (k + 1) * m.length = m.length + k * m.length := by rw [Nat.add_mul, Nat.one_mul]; omega
    have e2 : s * m.length + m.length = (s + 1) * m.length := by rw [Nat.add_mul, Nat.one_mul]
    have hb : s * m.length + m.length ≤ xs.size ∧ s * m.length + m.length ≤ ys.size := by
      have : (s + 1) * m.length ≤ (s + (k + 1)) * m.length := Nat.mul_le_mul_right _ (by omega)
      omega
    rw [e1, take_split, take_split, e2, List.replicate_succ, List.flatten_cons] at he
    have hc : P.cellsOf e = m.length := by simp [Program.cellsOf, hi, hsz]
    rw [List.range'_succ]
    rcases eqCells_append (by simp; omega) (by simp; omega) he with ⟨h1, h2⟩ | ⟨h1, h2⟩
    · obtain ⟨a, b, pa, pb, pe⟩ := hpl D hD xs ys (s * m.length) true hb.1 hb.2 ⟨i, hi, hsz⟩ h1
      have ih := eqItems_plain d m hi hsz hpl D hD xs ys k (s + 1) (by rw [← e0]; exact hx) (by rw [← e0]; exact hy) r h2 w
      rw [hc] at ih ⊢
      simp only [Op.eqItems, Sem.run_bind, pa, pb, pe, Result.andThen_ok]
      simpa using ih
    · obtain ⟨a, b, pa, pb, pe⟩ := hpl D hD xs ys (s * m.length) false hb.1 hb.2 ⟨i, hi, hsz⟩ h1
      subst h2
      rw [hc]
      simp only [Op.eqItems, Sem.run_bind, pa, pb, pe, Result.andThen_ok]
      simp

theorem plain_scalar {d : Nat} {t : TypeId} {D : TypeDesc} {k : CK} (hu : P.underlying t = some D) (hD : (D = .bool ∧ k = .b) ∨ ((∃ q, D = .int q) ∧ k = .i) ∨ (D = .string ∧ k = .s)) :
    PlainOk P (d + 1) t [k] ∧ PlainAll P (d + 1) t [k] := by
  have hagg : isAggD D = false := by rcases hD with ⟨rfl, _⟩ | ⟨⟨q, rfl⟩, _⟩ | ⟨rfl, _⟩ <;> rfl
  refine ⟨?_, fun _ _ _ _ _ _ _ _ ha => by rw [ha D hu] at hagg; cases hagg⟩
  intro E hE xs ys off r hx hy _ he
  simp only [List.length_cons, List.length_nil] at hx hy he
  have h1 : off < xs.size := by omega
  have h2 : off < ys.size := by omega
  have ex : (xs.toList.drop off).take 1 = [xs[off]] := by
    rw [List.drop_eq_getElem_cons (by simpa using h1)]; simp
  have ey : (ys.toList.drop off).take 1 = [ys[off]] := by
    rw [List.drop_eq_getElem_cons (by simpa using h2)]; simp
  rw [show 0 + 1 = 1 from rfl, ex, ey] at he
  refine ⟨xs[off], ys[off], fun w => part_one hu hagg xs off (by simp [h1]) w, fun w => part_one hu hagg ys off (by simp [h2]) w, fun w => ?_⟩
  obtain ⟨E, rfl⟩ : ∃ q, E = q + 1 := ⟨E - 1, by omega⟩
  generalize xs[off] = a at he
  generalize ys[off] = b at he
  have he' : eq1 k a b = some r := by
    simp only [eqCells] at he
    cases hab : eq1 k a b with
    | none => rw [hab] at he; simp at he
    | some q => rw [hab] at he; cases q <;> simp at he <;> subst he <;> rfl
  rcases hD with ⟨rfl, rfl⟩ | ⟨⟨q, rfl⟩, rfl⟩ | ⟨rfl, rfl⟩
  · cases a <;> cases b <;> simp [eq1] at he'
    subst he'
    simp [Op.equalIn, run_underlying hu]
  · cases a <;> cases b <;> simp [eq1] at he'
    obtain ⟨rfl, he'⟩ := he'
    subst he'
    simp [Op.equalIn, run_underlying hu]
  · cases a <;> cases b <;> simp only [eq1] at he' <;> first | (cases he'; done) | skip
    cases he'
    rw [run_equalIn_string w E t _ _ hu]

theorem plain_both : ∀ (d : Nat) (t : TypeId) (ks : List CK), plain P d t = some ks → PlainOk P d t ks ∧ PlainAll P d t ks
  | 0, t, n, h => by simp [plain] at h
  | d + 1, t, ks, h => by
    have ih := fun t m (h : plain P d t = some m) => (plain_both d t m h).1
    -- a whole one serves for a part
    have of_all : ∀ u, P.underlying t = some u → isAggD u = true → PlainAll P (d + 1) t ks → PlainOk P (d + 1) t ks ∧ PlainAll P (d + 1) t ks := by
      intro u hu hagg hall
      refine ⟨?_, hall⟩
      rintro E hE xs ys off r hx hy ⟨i, hi, hsz⟩ he
      refine ⟨_, _, fun w => part_agg hu hagg hi xs off w, fun w => part_agg hu hagg hi ys off w, fun w => ?_⟩
      refine hall E hE _ _ r ?_ ?_ ?_ (fun v hv => by rw [hu] at hv; cases hv; exact hagg) w
      · simp; omega
      · simp; omega
      · rw [extract_toList, extract_toList, hsz]; exact he
    simp only [plain] at h
    split at h
    · rename_i hu; cases h; exact plain_scalar hu (.inl ⟨rfl, rfl⟩)
    · rename_i q hu; cases h; exact plain_scalar hu (.inr (.inl ⟨⟨q, rfl⟩, rfl⟩))
    · rename_i hu; cases h; exact plain_scalar hu (.inr (.inr ⟨rfl, rfl⟩))
    · rename_i fs hu
      split at h
      · cases h
      · rename_i hs
        refine of_all _ hu rfl ?_
        intro E hE xs ys r hx hy he _ w
        obtain ⟨E, rfl⟩ : ∃ q, E = q + 1 := ⟨E - 1, by omega⟩
        have hf : P.fieldsOf t = fs := by simp [Program.fieldsOf, hu]
        rw [run_equalIn_struct w E t xs ys (by rw [hf]; exact hu) (by simpa using hs), hf]
        refine eqFields_plain (plain P d) d ih E (by omega) xs ys fs.toList 0 ks h (by omega) (by omega) r ?_ w
        rw [List.drop_zero, List.drop_zero, List.take_of_length_le (by simp; omega), List.take_of_length_le (by simp; omega)]
        exact he
    · rename_i len e hu
      split at h
      · rename_i m i hm hi
        split at h
        · rename_i hsz
          cases h
          refine of_all _ hu rfl ?_
          intro E hE xs ys r hx hy he _ w
          obtain ⟨E, rfl⟩ : ∃ q, E = q + 1 := ⟨E - 1, by omega⟩
          have hlen : (List.replicate len m).flatten.length = len * m.length := by simp
          rw [hlen] at hx hy
          rw [run_equalIn_array w E xs ys hu hi, List.range_eq_range']
          refine eqItems_plain d m hi hsz (ih e m hm) E (by omega) xs ys len 0 (by rw [Nat.zero_add]; omega) (by rw [Nat.zero_add]; omega) r ?_ w
          rw [Nat.zero_mul, List.drop_zero, List.drop_zero, List.take_of_length_le (by simp; omega), List.take_of_length_le (by simp; omega)]
          exact he
        · cases h
      · cases h
    · cases h

end
end Go.Proofs.YtdpbbppjjjhnoaaGreatDoor.D
