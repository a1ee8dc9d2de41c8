/- Proved: the law tompionlaw17.ClientQuiet, for every input, with no condition ('Rows.ClientQuietSaid'). -/
import Derived.Test.YtfflfehfjgkcdaaCp
import Derived.Test.YtfflfehfjgkcdaaEc
namespace Go.Proofs.Ytfflfehfjgkcdaa.clientQuiet
open Go Go.ChangeShapes Go.WideShapes Go.ChangeAt Go.RowKit

theorem own : ownKnob Try.prog.godebug = none := by kernel_rfl
theorem laidOut : laidOutB Try.prog = true := by kernel_rfl

set_option maxRecDepth 100000 in
theorem lifted (os : Os) (started : os.Started) (H : Type) (enc : TypeId × Value → H) :
    ReturnsInHanded {} Try.checked os 6 .any (Rows.clientQuietSpec.pre6 enc Try.prog Try.f6 Rows.clientQuietRow.domain false) (Rows.clientQuietSpec.post enc Try.prog Try.f6 false true false false) := by
  refine returnsInHanded_of_change (C := Try.checked) own started (by kernel_rfl) Try.func6
    (ChangeSpec.witness6 (enc := enc) (C := Try.checked) false ⟨#[], #[.slice none 0 0, .int .i64 0], []⟩ 8 (by kernel_rfl) (by kernel_rfl) (by kernel_rfl) (by kernel_rfl)) ?_
  intro W base args ds gs before hval hW _ _
  refine D.contract_ev laidOut D.tb_ok hval hW rfl (by kernel_rfl) rfl Try.underlying4 (fun hd => match ds, hd with | [_, _], _ => rfl) ?_
  obtain ⟨p, q, hA, _, _, _, _⟩ := id hW
  have hp : Try.f6.params.toList = [31, 3] := by kernel_rfl
  rw [hp] at hA
  obtain ⟨v0, r0, d0, ds0, p0, q0, e0, _, _, h0, hA⟩ := trodAll_cons hA
  obtain ⟨v1, r1, d1, ds1, p1, q1, e1, _, _, h1, hA⟩ := trodAll_cons hA
  obtain ⟨e2, _, _⟩ := trodAll_nil hA
  subst e2 e1
  rw [e0]
  have ha : args = #[v0, v1] := by rw [← Array.toList_inj]; exact e0
  subst ha
  exact D.quiet_law (D.arg_one (d := 8) (hval 0 31 v0 (by kernel_rfl) rfl) h0 (by kernel_rfl) (by kernel_rfl))

theorem proved : Rows.ClientQuietSaid :=
  OpenClaim.holds_of_wide 6 Try.f6 rfl rfl rfl rfl rfl rfl rfl ⟨rfl, rfl, rfl, rfl, rfl⟩ rfl rfl rfl rfl rfl (by kernel_rfl) Try.func6 (by kernel_rfl)
    (of_decide_eq_true (by kernel_rfl)) (by unfold Func.isWrapper; first | (rw [if_pos (by decide +kernel)]; kernel_rfl) | (rw [if_neg (by decide +kernel)]; exact ⟨rfl, rfl⟩))
    (fun os started H enc _ => lifted os started H enc)
end Go.Proofs.Ytfflfehfjgkcdaa.clientQuiet
