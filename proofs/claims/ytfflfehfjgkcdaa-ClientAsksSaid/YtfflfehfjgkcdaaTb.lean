/- The table of the compiled functions (written by a program). No statement of the seat is proved in this text. -/
import Derived.Test.YtfflfehfjgkcdaaTa0
import Derived.Test.YtfflfehfjgkcdaaTa1
import Derived.Test.YtfflfehfjgkcdaaTa2
import Derived.Test.YtfflfehfjgkcdaaTa3
import Derived.Test.YtfflfehfjgkcdaaTa4
namespace Go.Proofs.Ytfflfehfjgkcdaa.D
open Go
theorem Tbl.cons' {P : Program} {ngl : Nat} (f : Nat) (h : Hints) (d : DFn) {l : List (Nat × DFn)} (hc : (match P.funcs[f]? with | some fn => compileFn P ngl h fn | none => none) = some d) (t : Tbl P ngl l) : Tbl P ngl ((f, d) :: l) := by
  split at hc
  · rename_i fn hf; exact .cons f fn h d l hf hc t
  · cases hc
def tb : List (Nat × DFn) := [
(2, k2),(3, k3),(4, k4),(5, k5),(6, k6),(7, k7),(8, k8),(9, k9),(10, k10),(11, k11),(12, k12),(13, k13),(14, k14),(15, k15),(16, k16),(17, k17),(18, k18),(19, k19),(20, k20),(21, k21),(22, k22),(23, k23),(24, k24),(25, k25),(26, k26),(27, k27),(28, k28),(29, k29),(30, k30),(31, k31),(32, k32),(33, k33),(34, k34)
]
theorem tb_tbl : Tbl Try.prog 0 tb := by
  refine .cons' 2 _ k2 c2 ?_
  refine .cons' 3 _ k3 c3 ?_
  refine .cons' 4 _ k4 c4 ?_
  refine .cons' 5 _ k5 c5 ?_
  refine .cons' 6 _ k6 c6 ?_
  refine .cons' 7 _ k7 c7 ?_
  refine .cons' 8 _ k8 c8 ?_
  refine .cons' 9 _ k9 c9 ?_
  refine .cons' 10 _ k10 c10 ?_
  refine .cons' 11 _ k11 c11 ?_
  refine .cons' 12 _ k12 c12 ?_
  refine .cons' 13 _ k13 c13 ?_
  refine .cons' 14 _ k14 c14 ?_
  refine .cons' 15 _ k15 c15 ?_
  refine .cons' 16 _ k16 c16 ?_
  refine .cons' 17 _ k17 c17 ?_
  refine .cons' 18 _ k18 c18 ?_
  refine .cons' 19 _ k19 c19 ?_
  refine .cons' 20 _ k20 c20 ?_
  refine .cons' 21 _ k21 c21 ?_
  refine .cons' 22 _ k22 c22 ?_
  refine .cons' 23 _ k23 c23 ?_
  refine .cons' 24 _ k24 c24 ?_
  refine .cons' 25 _ k25 c25 ?_
  refine .cons' 26 _ k26 c26 ?_
  refine .cons' 27 _ k27 c27 ?_
  refine .cons' 28 _ k28 c28 ?_
  refine .cons' 29 _ k29 c29 ?_
  refine .cons' 30 _ k30 c30 ?_
  refine .cons' 31 _ k31 c31 ?_
  refine .cons' 32 _ k32 c32 ?_
  refine .cons' 33 _ k33 c33 ?_
  refine .cons' 34 _ k34 c34 ?_
  exact .nil
theorem tb_ok : ∀ f d, look tb f = some d → ∃ fn, Try.prog.funcs[f]? = some fn ∧ CompFn Try.prog 0 fn d := tb_tbl.ok
end Go.Proofs.Ytfflfehfjgkcdaa.D
