/- Proved: the law tompionlaw16.NodeNil, for every input, the package variables that it comes to being as the program's text lays them (the tied card 'Rows.NodeNilCardSaid'). -/
import Derived.Test.YtdpbbppjjjhnoaaGreatDoorNc
import Derived.Test.YtdpbbppjjjhnoaaGreatDoorCards
import Derived.Test.YtdpbbppjjjhnoaaGreatDoorTie
namespace Go.Proofs.YtdpbbppjjjhnoaaGreatDoor.nodeNil
open Go Go.ChangeShapes Go.WideShapes Go.ChangeAt Go.RowKit

theorem own : ownKnob Tryz.prog.godebug = none := by kernel_rfl
theorem laidOut : laidOutB Tryz.prog = true := by kernel_rfl
theorem gOf : D.gOf Tryz.prog Rows.nodeNilRow.laid = some D.G := by kernel_rfl

abbrev seSh : List D.Sh := [.i .i64, .i .i64, .b]
abbrev fiSh : List D.Sh := [.i .i64, .i .i64, .i .i64, .i .i64, .i .i64, .i .i64]
abbrev msgSh : List D.Sh := [.i .i64, .i .i64, .i .i64, .i .i64, .i .i64, .i .i64, .i .i64, .i .i64, .i .i64, .i .i64, .b, .i .i64, .i .i64, .i .i64, .i .i64, .i .i64, .i .i64, .i .i64, .i .i64, .i .i64, .s, .i .i64, .i .i64, .i .i64, .i .i64, .sl 3 seSh, .sl 6 fiSh, .i .i64]

theorem msgSh_ok {B : Nat → Nat → Option Value} {cs : List Value} (h : D.ShsOk B msgSh cs) : ∃ k fn m, cs = D.cells k fn m := by
  obtain ⟨v0, r, rfl, h0, h⟩ := h.cons
  obtain ⟨v1, r, rfl, h1, h⟩ := h.cons
  obtain ⟨v2, r, rfl, h2, h⟩ := h.cons
  obtain ⟨v3, r, rfl, h3, h⟩ := h.cons
  obtain ⟨v4, r, rfl, h4, h⟩ := h.cons
  obtain ⟨v5, r, rfl, h5, h⟩ := h.cons
  obtain ⟨v6, r, rfl, h6, h⟩ := h.cons
  obtain ⟨v7, r, rfl, h7, h⟩ := h.cons
  obtain ⟨v8, r, rfl, h8, h⟩ := h.cons
  obtain ⟨v9, r, rfl, h9, h⟩ := h.cons
  obtain ⟨vf, r, rfl, hf, h⟩ := h.cons
  obtain ⟨w0, r, rfl, i0, h⟩ := h.cons
  obtain ⟨w1, r, rfl, i1, h⟩ := h.cons
  obtain ⟨w2, r, rfl, i2, h⟩ := h.cons
  obtain ⟨w3, r, rfl, i3, h⟩ := h.cons
  obtain ⟨w4, r, rfl, i4, h⟩ := h.cons
  obtain ⟨w5, r, rfl, i5, h⟩ := h.cons
  obtain ⟨w6, r, rfl, i6, h⟩ := h.cons
  obtain ⟨w7, r, rfl, i7, h⟩ := h.cons
  obtain ⟨w8, r, rfl, i8, h⟩ := h.cons
  obtain ⟨vt, r, rfl, ht, h⟩ := h.cons
  obtain ⟨u0, r, rfl, j0, h⟩ := h.cons
  obtain ⟨u1, r, rfl, j1, h⟩ := h.cons
  obtain ⟨u2, r, rfl, j2, h⟩ := h.cons
  obtain ⟨u3, r, rfl, j3, h⟩ := h.cons
  obtain ⟨vc, r, rfl, hc, h⟩ := h.cons
  obtain ⟨vi, r, rfl, hi, h⟩ := h.cons
  obtain ⟨u4, r, rfl, j4, h⟩ := h.cons
  obtain rfl := h.nil
  obtain ⟨n0, rfl, _⟩ := h0.int
  obtain ⟨n1, rfl, _⟩ := h1.int
  obtain ⟨n2, rfl, _⟩ := h2.int
  obtain ⟨n3, rfl, _⟩ := h3.int
  obtain ⟨n4, rfl, _⟩ := h4.int
  obtain ⟨n5, rfl, _⟩ := h5.int
  obtain ⟨n6, rfl, _⟩ := h6.int
  obtain ⟨n7, rfl, _⟩ := h7.int
  obtain ⟨n8, rfl, _⟩ := h8.int
  obtain ⟨n9, rfl, _⟩ := h9.int
  obtain ⟨f, rfl⟩ := hf.bool
  obtain ⟨o0, rfl, _⟩ := i0.int
  obtain ⟨o1, rfl, _⟩ := i1.int
  obtain ⟨o2, rfl, _⟩ := i2.int
  obtain ⟨o3, rfl, _⟩ := i3.int
  obtain ⟨o4, rfl, _⟩ := i4.int
  obtain ⟨o5, rfl, _⟩ := i5.int
  obtain ⟨o6, rfl, _⟩ := i6.int
  obtain ⟨o7, rfl, _⟩ := i7.int
  obtain ⟨o8, rfl, _⟩ := i8.int
  obtain ⟨t, rfl, _⟩ := ht.str
  obtain ⟨p0, rfl, _⟩ := j0.int
  obtain ⟨p1, rfl, _⟩ := j1.int
  obtain ⟨p2, rfl, _⟩ := j2.int
  obtain ⟨p3, rfl, _⟩ := j3.int
  obtain ⟨p4, rfl, _⟩ := j4.int
  obtain ⟨l1, _, ⟨s1, c1, rfl⟩, _⟩ := hc.slice
  obtain ⟨l2, _, ⟨s2, c2, rfl⟩, _⟩ := hi.slice
  exact ⟨n0, n2, ⟨n1, n3, n4, n5, n6, n7, n8, n9, f, o0, o1, o2, o3, o4, o5, o6, o7, o8, t, p0, p1, p2, p3, s1, l1, c1, s2, l2, c2, p4⟩, rfl⟩

abbrev laid : List (String × DataW Unit) := Rows.nodeNilRow.laid

theorem laid_met (os : Os) (args : Array Value) : laidMetH Tryz.prog laid ((D.laidW Tryz.prog os D.G).forCall (fun _ _ => 0) ⟨#[], args, []⟩).memory :=
  laidMetH_of_parts (laidMet_of_run' 8 (by kernel_rfl) (by kernel_rfl)) (by kernel_rfl)

set_option maxRecDepth 100000 in
theorem lifted (os : Os) (started : os.Started) (H : Type) (enc : TypeId × Value → H) :
    ReturnsInHanded {} Tryz.checked os 3 .any (fun w args => (Rows.nodeNilSpec.pre enc Tryz.prog Tryz.f3 [] false w args ∧ laidMetH Tryz.prog laid w) ∧ sizedMet enc Tryz.prog Tryz.f3 (OpenSpec.ofChange Rows.nodeNilSpec) false w args)
      (Rows.nodeNilSpec.post enc Tryz.prog Tryz.f3 false true false false) := by
  refine returnsInHanded_of_change_and (C := Tryz.checked) (X := fun w _ => laidMetH Tryz.prog laid w) (fun _ _ _ hh h => h.of_heap hh) own started (by kernel_rfl) Tryz.func3
    (ChangeSpec.witness_at (enc := enc) (C := Tryz.checked) (os := os) (X := fun w _ => laidMetH Tryz.prog laid w) false (D.laidW Tryz.prog os D.G) #[(((Tryz.prog.info? 34).bind (·.zero)).getD default), .int .i64 0] 8 rfl (by kernel_rfl) (by kernel_rfl) (by kernel_rfl) (by kernel_rfl) (by kernel_rfl) (laid_met os _)) ?_
  intro W base args ds gs before hval hW _ _ hL _
  have hL' : laidMet Tryz.prog laid W := hL
  obtain ⟨ps, hps, _⟩ := hL'
  have hG := D.gOf_ok hps gOf
  have hn : 4 ≤ W.heap.size := hG.lt (g := 3) (by kernel_rfl)
  refine D.contract_evG laidOut D.tb_ok hG hn hW rfl (by kernel_rfl) rfl Tryz.underlying4 (fun hd => match ds, hd with | [_, _], _ => rfl) ?_
  obtain ⟨p, q, hA, _, _, _, _⟩ := id hW
  have hp : Tryz.f3.params.toList = [34, 3] := by kernel_rfl
  rw [hp] at hA
  obtain ⟨v0, r0, d0, ds0, p0, q0, e0, _, _, h0, hA⟩ := trodAll_cons hA
  obtain ⟨v1, r1, d1, ds1, p1, q1, e1, _, _, h1, hA⟩ := trodAll_cons hA
  obtain ⟨e2, _, _⟩ := trodAll_nil hA
  subst e2 e1
  rw [e0]
  have ha : args = #[v0, v1] := by rw [← Array.toList_inj]; exact e0
  subst ha
  obtain ⟨cs, hc1, hc2⟩ := D.arg_agg (d := 8) (l := msgSh) (hval 0 34 v0 (by kernel_rfl) rfl) h0 Tryz.underlying34 (by kernel_rfl)
  have hi := D.arg_one (d := 8) (sh := .i .i64) (hval 1 3 v1 (by kernel_rfl) rfl) h1 (by kernel_rfl) (by kernel_rfl)
  obtain ⟨n, hn2, _⟩ := hi.int
  obtain ⟨k, fn, m, rfl⟩ := msgSh_ok hc2
  show D.Ev _ _ _ [D.oldV W.heap.size v0, D.oldV W.heap.size v1] _ _
  rw [hc1, hn2]
  exact D.nn_law W k fn n m

theorem row_holds : Rows.NodeNilSaid :=
  OpenClaim.holds_of_wide 3 Tryz.f3 rfl rfl rfl rfl rfl rfl rfl ⟨rfl, rfl, rfl, rfl, rfl⟩ rfl rfl rfl rfl rfl (by kernel_rfl) Tryz.func3 (by kernel_rfl)
    (of_decide_eq_true (by kernel_rfl)) (by unfold Func.isWrapper; first | (rw [if_pos (by decide +kernel)]; kernel_rfl) | (rw [if_neg (by decide +kernel)]; exact ⟨rfl, rfl⟩))
    (fun os started H enc _ => lifted os started H enc)

theorem proved : Rows.NodeNilCardSaid :=
  Claim7.holds_tied_plain_at .later [] [.data, .data, .pinned] true (true, "d73c510a1dd78d280f8739772ca6b093aaa8757c793123ad201fcb377a410d1a") false
    row_holds (fun _ h => by cases h) (by kernel_rfl) (fun _ h => by cases h) nodeNil_row_tie rfl ⟨rfl, rfl⟩ (by kernel_rfl) rfl
    (fun f fn hf hfn => by
      obtain rfl : f = 3 := Option.some.inj ((show Tryz.prog.funcNamed "tompion/tompionlaw16.NodeNil" = some 3 by kernel_rfl).symm.trans hf) |>.symm
      obtain rfl : fn = Tryz.f3 := (Option.some.inj (Tryz.func3.symm.trans hfn)).symm
      exact ⟨by kernel_rfl, fun j t ht => by
        have hp : Tryz.f3.params = #[34, 3] := by kernel_rfl
        rw [hp] at ht
        have h3 : t = 34 ∨ t = 3 := by
          rcases j with _ | _ | j
          · exact .inl (by simpa using ht.symm)
          · exact .inr (by simpa using ht.symm)
          · simp at ht
        rcases h3 with rfl | rfl
        · exact (show Tryz.prog.wantsStandIn 34 = false by kernel_rfl)
        · exact (show Tryz.prog.wantsStandIn 3 = false by kernel_rfl)⟩)
    (by kernel_rfl)
end Go.Proofs.YtdpbbppjjjhnoaaGreatDoor.nodeNil
