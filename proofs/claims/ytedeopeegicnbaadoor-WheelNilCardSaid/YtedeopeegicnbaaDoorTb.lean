/- The table of the compiled functions (written by a program). No statement of the seat is proved in this text. -/
import Derived.Test.YtedeopeegicnbaaDoorTa0
import Derived.Test.YtedeopeegicnbaaDoorTa1
import Derived.Test.YtedeopeegicnbaaDoorTa2
import Derived.Test.YtedeopeegicnbaaDoorTa3
import Derived.Test.YtedeopeegicnbaaDoorTa4
import Derived.Test.YtedeopeegicnbaaDoorTa5
import Derived.Test.YtedeopeegicnbaaDoorTa6
namespace Go.Proofs.YtedeopeegicnbaaDoor.D
open Go
theorem Tbl.cons' {P : Program} {ngl : Nat} (f : Nat) (h : Hints) (d : DFn) {l : List (Nat × DFn)} (hc : (match P.funcs[f]? with | some fn => compileFn P ngl h fn | none => none) = some d) (t : Tbl P ngl l) : Tbl P ngl ((f, d) :: l) := by
  split at hc
  · rename_i fn hf; exact .cons f fn h d l hf hc t
  · cases hc
def tb : List (Nat × DFn) := [
(2, k2),(3, k3),(4, k4),(5, k5),(6, k6),(7, k7),(8, k8),(9, k9),(10, k10),(11, k11),(12, k12),(13, k13),(14, k14),(15, k15),(16, k16),(17, k17),(18, k18),(19, k19),(20, k20),(21, k21),(22, k22),(23, k23),(24, k24),(25, k25),(26, k26),(27, k27),(28, k28),(29, k29),(30, k30),(31, k31),(32, k32),(33, k33),(34, k34),(35, k35),(36, k36),(37, k37),(38, k38),(39, k39),(40, k40),(41, k41),(42, k42),(43, k43),(44, k44),(45, k45),(46, k46),(47, k47),(48, k48),(49, k49),(50, k50),(51, k51),(52, k52),(53, k53),(54, k54),(55, k55),(56, k56),(76, k76)
]
theorem tb_tbl : Tbl Tryd.prog 1 tb := by
  refine .cons' 2 _ k2 c2 ?_
  refine .cons' 3 _ k3 c3 ?_
  refine .cons' 4 _ k4 c4 ?_
  refine .cons' 5 _ k5 c5 ?_
  refine .cons' 6 _ k6 c6 ?_
  refine .cons' 7 _ k7 c7 ?_
  refine .cons' 8 _ k8 c8 ?_
  refine .cons' 9 _ k9 c9 ?_
  refine .cons' 10 _ k10 c10 ?_
  refine .cons' 11 _ k11 c11 ?_
  refine .cons' 12 _ k12 c12 ?_
  refine .cons' 13 _ k13 c13 ?_
  refine .cons' 14 _ k14 c14 ?_
  refine .cons' 15 _ k15 c15 ?_
  refine .cons' 16 _ k16 c16 ?_
  refine .cons' 17 _ k17 c17 ?_
  refine .cons' 18 _ k18 c18 ?_
  refine .cons' 19 _ k19 c19 ?_
  refine .cons' 20 _ k20 c20 ?_
  refine .cons' 21 _ k21 c21 ?_
  refine .cons' 22 _ k22 c22 ?_
  refine .cons' 23 _ k23 c23 ?_
  refine .cons' 24 _ k24 c24 ?_
  refine .cons' 25 _ k25 c25 ?_
  refine .cons' 26 _ k26 c26 ?_
  refine .cons' 27 _ k27 c27 ?_
  refine .cons' 28 _ k28 c28 ?_
  refine .cons' 29 _ k29 c29 ?_
  refine .cons' 30 _ k30 c30 ?_
  refine .cons' 31 _ k31 c31 ?_
  refine .cons' 32 _ k32 c32 ?_
  refine .cons' 33 _ k33 c33 ?_
  refine .cons' 34 _ k34 c34 ?_
  refine .cons' 35 _ k35 c35 ?_
  refine .cons' 36 _ k36 c36 ?_
  refine .cons' 37 _ k37 c37 ?_
  refine .cons' 38 _ k38 c38 ?_
  refine .cons' 39 _ k39 c39 ?_
  refine .cons' 40 _ k40 c40 ?_
  refine .cons' 41 _ k41 c41 ?_
  refine .cons' 42 _ k42 c42 ?_
  refine .cons' 43 _ k43 c43 ?_
  refine .cons' 44 _ k44 c44 ?_
  refine .cons' 45 _ k45 c45 ?_
  refine .cons' 46 _ k46 c46 ?_
  refine .cons' 47 _ k47 c47 ?_
  refine .cons' 48 _ k48 c48 ?_
  refine .cons' 49 _ k49 c49 ?_
  refine .cons' 50 _ k50 c50 ?_
  refine .cons' 51 _ k51 c51 ?_
  refine .cons' 52 _ k52 c52 ?_
  refine .cons' 53 _ k53 c53 ?_
  refine .cons' 54 _ k54 c54 ?_
  refine .cons' 55 _ k55 c55 ?_
  refine .cons' 56 _ k56 c56 ?_
  refine .cons' 76 _ k76 c76 ?_
  exact .nil
theorem tb_ok : ∀ f d, look tb f = some d → ∃ fn, Tryd.prog.funcs[f]? = some fn ∧ CompFn Tryd.prog 1 fn d := tb_tbl.ok
end Go.Proofs.YtedeopeegicnbaaDoor.D
