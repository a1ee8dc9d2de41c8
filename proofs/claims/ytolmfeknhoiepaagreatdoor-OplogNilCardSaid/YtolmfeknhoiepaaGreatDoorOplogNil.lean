/- Proved: the law tompionlaw09.OplogNil, for every input, the package variables that it comes to being as the program's text lays them (the tied card 'Rows.OplogNilCardSaid'). -/
import Derived.Test.YtolmfeknhoiepaaGreatDoorTb
import Derived.Test.YtolmfeknhoiepaaGreatDoorEf
import Derived.Test.YtolmfeknhoiepaaGreatDoorCards
import Derived.Test.YtolmfeknhoiepaaGreatDoorTie
namespace Go.Proofs.YtolmfeknhoiepaaGreatDoor.oplogNil
open Go Go.ChangeShapes Go.WideShapes Go.ChangeAt Go.RowKit

theorem own : ownKnob Tryz.prog.godebug = none := by kernel_rfl
theorem laidOut : laidOutB Tryz.prog = true := by kernel_rfl

noncomputable def G : List (Nat × List Value) := (D.gOf Tryz.prog Rows.oplogNilRow.laid).getD []
theorem gOf : D.gOf Tryz.prog Rows.oplogNilRow.laid = some G := by kernel_rfl

noncomputable abbrev runs (W : World) (a0 a1 a2 a3 a4 a5 a6 a7 a8 n : Int) (t : ByteArray) : Bool := D.tru (D.callM (D.look D.tb) D.nvNone 500 10 [.agg ⟨[.int .i64 a0, .int .i64 a1, .int .i64 a2, .int .i64 a3, .int .i64 a4, .int .i64 a5, .int .i64 a6, .int .i64 a7, .int .i64 a8, .string t]⟩, .int .i64 n] (D.heapG W G))
set_option maxRecDepth 100000 in
theorem run0 (W : World) (a0 a1 a2 a3 a4 a5 a6 a7 a8 : Int) (t : ByteArray) (m : Nat) : runs W a0 a1 a2 a3 a4 a5 a6 a7 a8 (.negSucc (m + 1)) t = true := by kernel_rfl
set_option maxRecDepth 100000 in
theorem run4 (W : World) (a0 a1 a2 a3 a4 a5 a6 a7 a8 : Int) (t : ByteArray) : runs W a0 a1 a2 a3 a4 a5 a6 a7 a8 (.negSucc 0) t = true := by kernel_rfl
set_option maxRecDepth 100000 in
theorem run1 (W : World) (a0 a1 a2 a3 a4 a5 a6 a7 a8 : Int) (t : ByteArray) : runs W a0 a1 a2 a3 a4 a5 a6 a7 a8 (.ofNat 0) t = true := by kernel_rfl
set_option maxRecDepth 100000 in
theorem run2 (W : World) (a0 a1 a2 a3 a4 a5 a6 a7 a8 : Int) (t : ByteArray) : runs W a0 a1 a2 a3 a4 a5 a6 a7 a8 (.ofNat 1) t = true := by kernel_rfl
set_option maxRecDepth 100000 in
theorem run3 (W : World) (a0 a1 a2 a3 a4 a5 a6 a7 a8 : Int) (t : ByteArray) (m : Nat) : runs W a0 a1 a2 a3 a4 a5 a6 a7 a8 (.ofNat (m + 2)) t = true := by kernel_rfl
theorem run (W : World) (a0 a1 a2 a3 a4 a5 a6 a7 a8 : Int) (t : ByteArray) : ∀ n, runs W a0 a1 a2 a3 a4 a5 a6 a7 a8 n t = true
  | .negSucc 0 => run4 W a0 a1 a2 a3 a4 a5 a6 a7 a8 t
  | .negSucc (m + 1) => run0 W a0 a1 a2 a3 a4 a5 a6 a7 a8 t m
  | .ofNat 0 => run1 W a0 a1 a2 a3 a4 a5 a6 a7 a8 t
  | .ofNat 1 => run2 W a0 a1 a2 a3 a4 a5 a6 a7 a8 t
  | .ofNat (m + 2) => run3 W a0 a1 a2 a3 a4 a5 a6 a7 a8 t m

abbrev opSh : List D.Sh := [.i .i64, .i .i64, .i .i64, .i .i64, .i .i64, .i .i64, .i .i64, .i .i64, .i .i64, .s]
theorem opSh_ok {B : Nat → Nat → Option Value} {cs : List Value} (h : D.ShsOk B opSh cs) : ∃ a0 a1 a2 a3 a4 a5 a6 a7 a8 t, cs = [.int .i64 a0, .int .i64 a1, .int .i64 a2, .int .i64 a3, .int .i64 a4, .int .i64 a5, .int .i64 a6, .int .i64 a7, .int .i64 a8, .string t] := by
  obtain ⟨v0, r, rfl, h0, h⟩ := h.cons
  obtain ⟨v1, r, rfl, h1, h⟩ := h.cons
  obtain ⟨v2, r, rfl, h2, h⟩ := h.cons
  obtain ⟨v3, r, rfl, h3, h⟩ := h.cons
  obtain ⟨v4, r, rfl, h4, h⟩ := h.cons
  obtain ⟨v5, r, rfl, h5, h⟩ := h.cons
  obtain ⟨v6, r, rfl, h6, h⟩ := h.cons
  obtain ⟨v7, r, rfl, h7, h⟩ := h.cons
  obtain ⟨v8, r, rfl, h8, h⟩ := h.cons
  obtain ⟨v9, r, rfl, h9, h⟩ := h.cons
  obtain rfl := h.nil
  obtain ⟨n0, rfl, _⟩ := h0.int
  obtain ⟨n1, rfl, _⟩ := h1.int
  obtain ⟨n2, rfl, _⟩ := h2.int
  obtain ⟨n3, rfl, _⟩ := h3.int
  obtain ⟨n4, rfl, _⟩ := h4.int
  obtain ⟨n5, rfl, _⟩ := h5.int
  obtain ⟨n6, rfl, _⟩ := h6.int
  obtain ⟨n7, rfl, _⟩ := h7.int
  obtain ⟨n8, rfl, _⟩ := h8.int
  obtain ⟨t, rfl, _⟩ := h9.str
  exact ⟨n0, n1, n2, n3, n4, n5, n6, n7, n8, t, rfl⟩

abbrev laid : List (String × DataW Unit) := Rows.oplogNilRow.laid

theorem laid_met (os : Os) (args : Array Value) : laidMetH Tryz.prog laid ((D.laidW Tryz.prog os G).forCall (fun _ _ => 0) ⟨#[], args, []⟩).memory :=
  laidMetH_of_parts (laidMet_of_run' 8 (by kernel_rfl) (by kernel_rfl)) (by kernel_rfl)

set_option maxRecDepth 100000 in
theorem lifted (os : Os) (started : os.Started) (H : Type) (enc : TypeId × Value → H) :
    ReturnsInHanded {} Tryz.checked os 10 .any (fun w args => (Rows.oplogNilSpec.pre enc Tryz.prog Tryz.f10 [] false w args ∧ laidMetH Tryz.prog laid w) ∧ sizedMet enc Tryz.prog Tryz.f10 (OpenSpec.ofChange Rows.oplogNilSpec) false w args)
      (Rows.oplogNilSpec.post enc Tryz.prog Tryz.f10 false true false false) := by
  refine returnsInHanded_of_change_and (C := Tryz.checked) (X := fun w _ => laidMetH Tryz.prog laid w) (fun _ _ _ hh h => h.of_heap hh) own started (by kernel_rfl) Tryz.func10
    (ChangeSpec.witness_at (enc := enc) (C := Tryz.checked) (os := os) (X := fun w _ => laidMetH Tryz.prog laid w) false (D.laidW Tryz.prog os G) #[(((Tryz.prog.info? 57).bind (·.zero)).getD default), .int .i64 0] 8 rfl (by kernel_rfl) (by kernel_rfl) (by kernel_rfl) (by kernel_rfl) (by kernel_rfl) (laid_met os _)) ?_
  intro W base args ds gs before hval hW _ _ hL _
  have hL' : laidMet Tryz.prog laid W := hL
  obtain ⟨ps, hps, _⟩ := hL'
  have hG := D.gOf_ok hps gOf
  have hn : 4 ≤ W.heap.size := hG.lt (g := 3) (by kernel_rfl)
  refine D.contract_evG laidOut D.tb_ok hG hn hW rfl (by kernel_rfl) rfl Tryz.underlying4 (fun hd => match ds, hd with | [_, _], _ => rfl) ?_
  obtain ⟨p, q, hA, _, _, _, _⟩ := id hW
  have hp : Tryz.f10.params.toList = [57, 3] := by kernel_rfl
  rw [hp] at hA
  obtain ⟨v0, r0, d0, ds0, p0, q0, e0, _, _, h0, hA⟩ := trodAll_cons hA
  obtain ⟨v1, r1, d1, ds1, p1, q1, e1, _, _, h1, hA⟩ := trodAll_cons hA
  obtain ⟨e2, _, _⟩ := trodAll_nil hA
  subst e2 e1
  rw [e0]
  have ha : args = #[v0, v1] := by rw [← Array.toList_inj]; exact e0
  subst ha
  obtain ⟨cs, hc1, hc2⟩ := D.arg_agg (d := 8) (l := opSh) (hval 0 57 v0 (by kernel_rfl) rfl) h0 Tryz.underlying57 (by kernel_rfl)
  have hi := D.arg_one (d := 8) (sh := .i .i64) (hval 1 3 v1 (by kernel_rfl) rfl) h1 (by kernel_rfl) (by kernel_rfl)
  obtain ⟨n, hn2, _⟩ := hi.int
  obtain ⟨a0, a1, a2, a3, a4, a5, a6, a7, a8, t, rfl⟩ := opSh_ok hc2
  show D.Ev _ _ _ [D.oldV W.heap.size v0, D.oldV W.heap.size v1] _ _
  rw [hc1, hn2]
  obtain ⟨H', hr⟩ := D.tru_some (run W a0 a1 a2 a3 a4 a5 a6 a7 a8 t n)
  exact D.Ev.run hr rfl

theorem row_holds : Rows.OplogNilSaid :=
  OpenClaim.holds_of_wide 10 Tryz.f10 rfl rfl rfl rfl rfl rfl rfl ⟨rfl, rfl, rfl, rfl, rfl⟩ rfl rfl rfl rfl rfl (by kernel_rfl) Tryz.func10 (by kernel_rfl)
    (of_decide_eq_true (by kernel_rfl)) (by unfold Func.isWrapper; first | (rw [if_pos (by decide +kernel)]; kernel_rfl) | (rw [if_neg (by decide +kernel)]; exact ⟨rfl, rfl⟩))
    (fun os started H enc _ => lifted os started H enc)

theorem proved : Rows.OplogNilCardSaid :=
  Claim7.holds_tied_plain_at .later [] [.data, .data, .pinned] true (true, "d4a271adc168c6489305ca6282ab7a0b7281f28c7d92f8f325ed2f41020c523a") false
    row_holds (fun _ h => by cases h) (by kernel_rfl) (fun _ h => by cases h) oplogNil_row_tie rfl ⟨rfl, rfl⟩ (by kernel_rfl) rfl
    (fun f fn hf hfn => by
      obtain rfl : f = 10 := Option.some.inj ((show Tryz.prog.funcNamed "tompion/tompionlaw09.OplogNil" = some 10 by kernel_rfl).symm.trans hf) |>.symm
      obtain rfl : fn = Tryz.f10 := (Option.some.inj (Tryz.func10.symm.trans hfn)).symm
      exact ⟨by kernel_rfl, fun j t ht => by
        have hp : Tryz.f10.params = #[57, 3] := by kernel_rfl
        rw [hp] at ht
        have h3 : t = 57 ∨ t = 3 := by
          rcases j with _ | _ | j
          · exact .inl (by simpa using ht.symm)
          · exact .inr (by simpa using ht.symm)
          · simp at ht
        rcases h3 with rfl | rfl
        · exact (show Tryz.prog.wantsStandIn 57 = false by kernel_rfl)
        · exact (show Tryz.prog.wantsStandIn 3 = false by kernel_rfl)⟩)
    (by kernel_rfl)
end Go.Proofs.YtolmfeknhoiepaaGreatDoor.oplogNil
