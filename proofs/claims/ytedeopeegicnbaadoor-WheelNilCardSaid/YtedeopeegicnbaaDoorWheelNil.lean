/- Proved: the law tompionlaw06.WheelNil, for every input, the package variable math/bits.deBruijn64tab being as the program's text lays it (the tied card 'Rows.WheelNilCardSaid'). -/
import Derived.Test.YtedeopeegicnbaaDoorTb
import Derived.Test.YtedeopeegicnbaaDoorEf
import Derived.Test.YtedeopeegicnbaaDoorCards
import Derived.Test.YtedeopeegicnbaaDoorTie
namespace Go.Proofs.YtedeopeegicnbaaDoor.wheelNil
open Go Go.ChangeShapes Go.WideShapes Go.ChangeAt Go.RowKit

theorem own : ownKnob Tryd.prog.godebug = none := by kernel_rfl
theorem laidOut : laidOutB Tryd.prog = true := by kernel_rfl

noncomputable def G : List (Nat × List Value) := (D.gOf Tryd.prog Rows.wheelNilRow.laid).getD []
theorem gOf : D.gOf Tryd.prog Rows.wheelNilRow.laid = some G := by kernel_rfl

set_option maxRecDepth 100000 in
theorem run (W : World) : D.tru (D.callM (D.look D.tb) D.nvNone 400 7 (Tryd.f7.params.toList.map (D.undefV Tryd.prog)) (D.heapG W G)) = true := by kernel_rfl

abbrev laid : List (String × DataW Unit) := Rows.wheelNilRow.laid

theorem laid_met (os : Os) (args : Array Value) : laidMetH Tryd.prog laid ((D.laidW Tryd.prog os G).forCall (fun _ _ => 0) ⟨#[], args, []⟩).memory :=
  laidMetH_of_parts (laidMet_of_run' 8 (by kernel_rfl) (by kernel_rfl)) (by kernel_rfl)

set_option maxRecDepth 100000 in
theorem lifted (os : Os) (started : os.Started) (H : Type) (enc : TypeId × Value → H) :
    ReturnsInHanded {} Tryd.checked os 7 .any (fun w args => (Rows.wheelNilSpec.pre enc Tryd.prog Tryd.f7 [] false w args ∧ laidMetH Tryd.prog laid w) ∧ sizedMet enc Tryd.prog Tryd.f7 (OpenSpec.ofChange Rows.wheelNilSpec) false w args)
      (Rows.wheelNilSpec.post enc Tryd.prog Tryd.f7 false true false false) := by
  refine returnsInHanded_of_change_and (C := Tryd.checked) (X := fun w _ => laidMetH Tryd.prog laid w) (fun _ _ _ hh h => h.of_heap hh) own started (by kernel_rfl) Tryd.func7
    (ChangeSpec.witness_at (enc := enc) (C := Tryd.checked) (os := os) (X := fun w _ => laidMetH Tryd.prog laid w) false (D.laidW Tryd.prog os G) #[.int .i64 0, .int .i64 0] 8 rfl (by kernel_rfl) (by kernel_rfl) (by kernel_rfl) (by kernel_rfl) (by kernel_rfl) (laid_met os _)) ?_
  intro W base args ds gs before hval hW _ _ hL _
  have hL' : laidMet Tryd.prog laid W := hL
  obtain ⟨ps, hps, _⟩ := hL'
  have hG := D.gOf_ok hps gOf
  have hn : 1 ≤ W.heap.size := hG.lt (g := 0) (by kernel_rfl)
  exact D.contract_blindG (k := 400) laidOut D.tb_ok hG hn hval hW rfl (by kernel_rfl) rfl Tryd.underlying4 (fun hd => match ds, hd with | [_, _], _ => rfl) (run W)

theorem row_holds : Rows.WheelNilSaid :=
  OpenClaim.holds_of_wide 7 Tryd.f7 rfl rfl rfl rfl rfl rfl rfl ⟨rfl, rfl, rfl, rfl, rfl⟩ rfl rfl rfl rfl rfl (by kernel_rfl) Tryd.func7 (by kernel_rfl)
    (of_decide_eq_true (by kernel_rfl)) (by unfold Func.isWrapper; first | (rw [if_pos (by decide +kernel)]; kernel_rfl) | (rw [if_neg (by decide +kernel)]; exact ⟨rfl, rfl⟩))
    (fun os started H enc _ => lifted os started H enc)

theorem proved : Rows.WheelNilCardSaid :=
  Claim7.holds_tied_plain_at .later [] [.data] true (true, "f73e8287c5ba710e2c7e54a0e1a149b013afa684d15fe70d2892620c7e5d4c2f") false
    row_holds (fun _ h => by cases h) (by kernel_rfl) (fun _ h => by cases h) wheelNil_row_tie rfl ⟨rfl, rfl⟩ (by kernel_rfl) rfl
    (fun f fn hf hfn => by
      obtain rfl : f = 7 := Option.some.inj ((show Tryd.prog.funcNamed "tompion/tompionlaw06.WheelNil" = some 7 by kernel_rfl).symm.trans hf) |>.symm
      obtain rfl : fn = Tryd.f7 := (Option.some.inj (Tryd.func7.symm.trans hfn)).symm
      exact ⟨by kernel_rfl, fun j t ht => by
        have hp : Tryd.f7.params = #[3, 3] := by kernel_rfl
        rw [hp] at ht
        have h3 : t = 3 := by
          rcases j with _ | _ | j
          · simpa using ht.symm
          · simpa using ht.symm
          · simp at ht
        subst h3
        exact (show Tryd.prog.wantsStandIn 3 = false by kernel_rfl)⟩)
    (by kernel_rfl)
end Go.Proofs.YtedeopeegicnbaaDoor.wheelNil
