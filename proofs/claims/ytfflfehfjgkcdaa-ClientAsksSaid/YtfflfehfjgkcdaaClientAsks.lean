/- Proved: the law tompionlaw17.ClientAsks, for every input, with no condition ('Rows.ClientAsksSaid'). -/
import Derived.Test.YtfflfehfjgkcdaaCt
import Derived.Test.YtfflfehfjgkcdaaEc
namespace Go.Proofs.Ytfflfehfjgkcdaa.clientAsks
open Go Go.ChangeShapes Go.WideShapes Go.ChangeAt Go.RowKit

theorem own : ownKnob Try.prog.godebug = none := by kernel_rfl
theorem laidOut : laidOutB Try.prog = true := by kernel_rfl

set_option maxRecDepth 100000 in
theorem lifted (os : Os) (started : os.Started) (H : Type) (enc : TypeId × Value → H) :
    ReturnsInHanded {} Try.checked os 5 .any (Rows.clientAsksSpec.pre6 enc Try.prog Try.f5 Rows.clientAsksRow.domain false) (Rows.clientAsksSpec.post enc Try.prog Try.f5 false true false false) := by
  refine returnsInHanded_of_change (C := Try.checked) own started (by kernel_rfl) Try.func5
    (ChangeSpec.witness6 (enc := enc) (C := Try.checked) false ⟨#[], #[(((Try.prog.info? 30).bind (·.zero)).getD default), .slice none 0 0, .int .i64 0], []⟩ 8 (by kernel_rfl) (by kernel_rfl) (by kernel_rfl) (by kernel_rfl)) ?_
  intro W base args ds gs before hval hW _ _
  refine D.contract_ev laidOut D.tb_ok hval hW rfl (by kernel_rfl) rfl Try.underlying4 (fun hd => match ds, hd with | [_, _, _], _ => rfl) ?_
  obtain ⟨p, q, hA, _, _, _, _⟩ := id hW
  have hp : Try.f5.params.toList = [30, 59, 3] := by kernel_rfl
  rw [hp] at hA
  obtain ⟨v0, r0, d0, ds0, p0, q0, e0, _, _, h0, hA⟩ := trodAll_cons hA
  obtain ⟨v1, r1, d1, ds1, p1, q1, e1, _, _, h1, hA⟩ := trodAll_cons hA
  obtain ⟨v2, r2, d2, ds2, p2, q2, e2, _, _, h2, hA⟩ := trodAll_cons hA
  obtain ⟨e3, _, _⟩ := trodAll_nil hA
  subst e3 e2 e1
  rw [e0]
  have ha : args = #[v0, v1, v2] := by rw [← Array.toList_inj]; exact e0
  subst ha
  obtain ⟨cs, hc1, hc2⟩ := D.arg_agg (d := 8) (l := D.callSh) (hval 0 30 v0 (by kernel_rfl) rfl) h0 Try.underlying30 (by kernel_rfl)
  have hi := D.arg_one (d := 8) (sh := .i .i64) (hval 2 3 v2 (by kernel_rfl) rfl) h2 (by kernel_rfl) (by kernel_rfl)
  obtain ⟨n, hn, _⟩ := hi.int
  show D.Ev _ _ _ [D.oldV W.heap.size v0, D.oldV W.heap.size v1, D.oldV W.heap.size v2] _ _
  rw [hc1, hn]
  exact D.asks_law hc2 (D.arg_one (d := 8) (hval 1 59 v1 (by kernel_rfl) rfl) h1 (by kernel_rfl) (by kernel_rfl))

theorem proved : Rows.ClientAsksSaid :=
  OpenClaim.holds_of_wide 5 Try.f5 rfl rfl rfl rfl rfl rfl rfl ⟨rfl, rfl, rfl, rfl, rfl⟩ rfl rfl rfl rfl rfl (by kernel_rfl) Try.func5 (by kernel_rfl)
    (of_decide_eq_true (by kernel_rfl)) (by unfold Func.isWrapper; first | (rw [if_pos (by decide +kernel)]; kernel_rfl) | (rw [if_neg (by decide +kernel)]; exact ⟨rfl, rfl⟩))
    (fun os started H enc _ => lifted os started H enc)
end Go.Proofs.Ytfflfehfjgkcdaa.clientAsks
