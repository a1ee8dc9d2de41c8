/- The table of the compiled functions (written by a program). No statement of the seat is proved in this text. -/
import Derived.Test.YtolmfeknhoiepaaGreatDoorTa0
import Derived.Test.YtolmfeknhoiepaaGreatDoorTa1
import Derived.Test.YtolmfeknhoiepaaGreatDoorTa2
import Derived.Test.YtolmfeknhoiepaaGreatDoorTa3
namespace Go.Proofs.YtolmfeknhoiepaaGreatDoor.D
open Go
set_option maxRecDepth 100000
theorem Tbl.cons' {P : Program} {ngl : Nat} (f : Nat) (h : Hints) (d : DFn) {l : List (Nat × DFn)} (hc : (match P.funcs[f]? with | some fn => compileFn P ngl h fn | none => none) = some d) (t : Tbl P ngl l) : Tbl P ngl ((f, d) :: l) := by
  split at hc
  · rename_i fn hf; exact .cons f fn h d l hf hc t
  · cases hc
def tb : List (Nat × DFn) := [
(10, k10),(26, k26),(28, k28),(29, k29),(30, k30),(31, k31),(32, k32),(33, k33),(35, k35),(36, k36),(37, k37),(38, k38),(39, k39),(40, k40),(53, k53),(54, k54),(55, k55),(56, k56),(57, k57),(58, k58),(59, k59),(60, k60),(61, k61),(62, k62),(63, k63),(73, k73),(75, k75),(76, k76),(77, k77),(78, k78),(79, k79),(81, k81),(82, k82),(83, k83),(84, k84),(85, k85),(86, k86),(100, k100),(101, k101),(102, k102),(105, k105),(106, k106),(107, k107),(130, k130),(131, k131),(132, k132),(149, k149),(150, k150)
]
theorem tb_tbl : Tbl Tryz.prog 4 tb := by
  refine .cons' 10 _ k10 c10 ?_
  refine .cons' 26 _ k26 c26 ?_
  refine .cons' 28 _ k28 c28 ?_
  refine .cons' 29 _ k29 c29 ?_
  refine .cons' 30 _ k30 c30 ?_
  refine .cons' 31 _ k31 c31 ?_
  refine .cons' 32 _ k32 c32 ?_
  refine .cons' 33 _ k33 c33 ?_
  refine .cons' 35 _ k35 c35 ?_
  refine .cons' 36 _ k36 c36 ?_
  refine .cons' 37 _ k37 c37 ?_
  refine .cons' 38 _ k38 c38 ?_
  refine .cons' 39 _ k39 c39 ?_
  refine .cons' 40 _ k40 c40 ?_
  refine .cons' 53 _ k53 c53 ?_
  refine .cons' 54 _ k54 c54 ?_
  refine .cons' 55 _ k55 c55 ?_
  refine .cons' 56 _ k56 c56 ?_
  refine .cons' 57 _ k57 c57 ?_
  refine .cons' 58 _ k58 c58 ?_
  refine .cons' 59 _ k59 c59 ?_
  refine .cons' 60 _ k60 c60 ?_
  refine .cons' 61 _ k61 c61 ?_
  refine .cons' 62 _ k62 c62 ?_
  refine .cons' 63 _ k63 c63 ?_
  refine .cons' 73 _ k73 c73 ?_
  refine .cons' 75 _ k75 c75 ?_
  refine .cons' 76 _ k76 c76 ?_
  refine .cons' 77 _ k77 c77 ?_
  refine .cons' 78 _ k78 c78 ?_
  refine .cons' 79 _ k79 c79 ?_
  refine .cons' 81 _ k81 c81 ?_
  refine .cons' 82 _ k82 c82 ?_
  refine .cons' 83 _ k83 c83 ?_
  refine .cons' 84 _ k84 c84 ?_
  refine .cons' 85 _ k85 c85 ?_
  refine .cons' 86 _ k86 c86 ?_
  refine .cons' 100 _ k100 c100 ?_
  refine .cons' 101 _ k101 c101 ?_
  refine .cons' 102 _ k102 c102 ?_
  refine .cons' 105 _ k105 c105 ?_
  refine .cons' 106 _ k106 c106 ?_
  refine .cons' 107 _ k107 c107 ?_
  refine .cons' 130 _ k130 c130 ?_
  refine .cons' 131 _ k131 c131 ?_
  refine .cons' 132 _ k132 c132 ?_
  refine .cons' 149 _ k149 c149 ?_
  refine .cons' 150 _ k150 c150 ?_
  exact .nil
theorem tb_ok : ∀ f d, look tb f = some d → ∃ fn, Tryz.prog.funcs[f]? = some fn ∧ CompFn Tryz.prog 4 fn d := tb_tbl.ok
end Go.Proofs.YtolmfeknhoiepaaGreatDoor.D
