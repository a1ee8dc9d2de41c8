/- Proved: the law tompionlaw17.ClientNil, for every input, with no condition ('Rows.ClientNilSaid'). -/
import Derived.Test.YtfflfehfjgkcdaaTb
import Derived.Test.YtfflfehfjgkcdaaDy
namespace Go.Proofs.Ytfflfehfjgkcdaa.clientNil
open Go Go.ChangeShapes Go.WideShapes Go.ChangeAt Go.RowKit

theorem own : ownKnob Try.prog.godebug = none := by kernel_rfl
theorem laidOut : laidOutB Try.prog = true := by kernel_rfl

theorem run (W : World) : D.tru (D.callM (D.look D.tb) D.nvNone 300 7 (Try.f7.params.toList.map (D.undefV Try.prog)) (D.heap0 W)) = true := by kernel_rfl

set_option maxRecDepth 100000 in
theorem lifted (os : Os) (started : os.Started) (H : Type) (enc : TypeId × Value → H) :
    ReturnsInHanded {} Try.checked os 7 .any (Rows.clientNilSpec.pre6 enc Try.prog Try.f7 Rows.clientNilRow.domain false) (Rows.clientNilSpec.post enc Try.prog Try.f7 false true false false) := by
  refine returnsInHanded_of_change (C := Try.checked) own started (by kernel_rfl) Try.func7
    (ChangeSpec.witness6 (enc := enc) (C := Try.checked) false ⟨#[], #[(((Try.prog.info? 30).bind (·.zero)).getD default), (((Try.prog.info? 46).bind (·.zero)).getD default), .int .i64 0], []⟩ 8 (by kernel_rfl) (by kernel_rfl) (by kernel_rfl) (by kernel_rfl)) ?_
  intro W base args ds gs before hval hW _ _
  exact D.contract_blind (k := 300) laidOut D.tb_ok hval hW rfl (by kernel_rfl) rfl Try.underlying4 (fun hd => match ds, hd with | [_, _, _], _ => rfl) (run W)

theorem proved : Rows.ClientNilSaid :=
  OpenClaim.holds_of_wide 7 Try.f7 rfl rfl rfl rfl rfl rfl rfl ⟨rfl, rfl, rfl, rfl, rfl⟩ rfl rfl rfl rfl rfl (by kernel_rfl) Try.func7 (by kernel_rfl)
    (of_decide_eq_true (by kernel_rfl)) (by unfold Func.isWrapper; first | (rw [if_pos (by decide +kernel)]; kernel_rfl) | (rw [if_neg (by decide +kernel)]; exact ⟨rfl, rfl⟩))
    (fun os started H enc _ => lifted os started H enc)
end Go.Proofs.Ytfflfehfjgkcdaa.clientNil
