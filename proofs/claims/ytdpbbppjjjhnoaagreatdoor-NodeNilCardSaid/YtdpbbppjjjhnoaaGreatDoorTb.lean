/- The table of the compiled functions (written by a program). No statement of the seat is proved in this text. -/
import Derived.Test.YtdpbbppjjjhnoaaGreatDoorTa0
import Derived.Test.YtdpbbppjjjhnoaaGreatDoorTa1
import Derived.Test.YtdpbbppjjjhnoaaGreatDoorTa2
import Derived.Test.YtdpbbppjjjhnoaaGreatDoorTa3
import Derived.Test.YtdpbbppjjjhnoaaGreatDoorTa4
import Derived.Test.YtdpbbppjjjhnoaaGreatDoorTa5
import Derived.Test.YtdpbbppjjjhnoaaGreatDoorTa6
import Derived.Test.YtdpbbppjjjhnoaaGreatDoorTa7
namespace Go.Proofs.YtdpbbppjjjhnoaaGreatDoor.D
open Go
set_option maxRecDepth 100000
theorem Tbl.cons' {P : Program} {ngl : Nat} (f : Nat) (h : Hints) (d : DFn) {l : List (Nat × DFn)} (hc : (match P.funcs[f]? with | some fn => compileFn P ngl h fn | none => none) = some d) (t : Tbl P ngl l) : Tbl P ngl ((f, d) :: l) := by
  split at hc
  · rename_i fn hf; exact .cons f fn h d l hf hc t
  · cases hc
def tb : List (Nat × DFn) := [
(3, k3),(4, k4),(5, k5),(6, k6),(7, k7),(8, k8),(9, k9),(10, k10),(11, k11),(12, k12),(13, k13),(14, k14),(15, k15),(16, k16),(17, k17),(18, k18),(19, k19),(20, k20),(21, k21),(22, k22),(23, k23),(24, k24),(25, k25),(26, k26),(27, k27),(28, k28),(36, k36),(37, k37),(38, k38),(39, k39),(40, k40),(41, k41),(42, k42),(43, k43),(44, k44),(45, k45),(46, k46),(47, k47),(48, k48),(49, k49),(50, k50),(51, k51),(52, k52),(53, k53),(58, k58),(59, k59),(67, k67),(68, k68),(69, k69),(72, k72),(73, k73),(74, k74),(75, k75),(76, k76),(77, k77),(78, k78),(79, k79),(80, k80),(81, k81),(84, k84),(85, k85),(86, k86),(87, k87),(88, k88),(89, k89),(90, k90),(91, k91),(92, k92),(94, k94),(95, k95),(96, k96),(97, k97),(100, k100),(101, k101),(102, k102),(103, k103),(107, k107),(110, k110),(111, k111),(112, k112),(113, k113),(116, k116),(117, k117),(118, k118),(130, k130)
]
theorem tb_tbl : Tbl Tryz.prog 4 tb := by
  refine .cons' 3 _ k3 c3 ?_
  refine .cons' 4 _ k4 c4 ?_
  refine .cons' 5 _ k5 c5 ?_
  refine .cons' 6 _ k6 c6 ?_
  refine .cons' 7 _ k7 c7 ?_
  refine .cons' 8 _ k8 c8 ?_
  refine .cons' 9 _ k9 c9 ?_
  refine .cons' 10 _ k10 c10 ?_
  refine .cons' 11 _ k11 c11 ?_
  refine .cons' 12 _ k12 c12 ?_
  refine .cons' 13 _ k13 c13 ?_
  refine .cons' 14 _ k14 c14 ?_
  refine .cons' 15 _ k15 c15 ?_
  refine .cons' 16 _ k16 c16 ?_
  refine .cons' 17 _ k17 c17 ?_
  refine .cons' 18 _ k18 c18 ?_
  refine .cons' 19 _ k19 c19 ?_
  refine .cons' 20 _ k20 c20 ?_
  refine .cons' 21 _ k21 c21 ?_
  refine .cons' 22 _ k22 c22 ?_
  refine .cons' 23 _ k23 c23 ?_
  refine .cons' 24 _ k24 c24 ?_
  refine .cons' 25 _ k25 c25 ?_
  refine .cons' 26 _ k26 c26 ?_
  refine .cons' 27 _ k27 c27 ?_
  refine .cons' 28 _ k28 c28 ?_
  refine .cons' 36 _ k36 c36 ?_
  refine .cons' 37 _ k37 c37 ?_
  refine .cons' 38 _ k38 c38 ?_
  refine .cons' 39 _ k39 c39 ?_
  refine .cons' 40 _ k40 c40 ?_
  refine .cons' 41 _ k41 c41 ?_
  refine .cons' 42 _ k42 c42 ?_
  refine .cons' 43 _ k43 c43 ?_
  refine .cons' 44 _ k44 c44 ?_
  refine .cons' 45 _ k45 c45 ?_
  refine .cons' 46 _ k46 c46 ?_
  refine .cons' 47 _ k47 c47 ?_
  refine .cons' 48 _ k48 c48 ?_
  refine .cons' 49 _ k49 c49 ?_
  refine .cons' 50 _ k50 c50 ?_
  refine .cons' 51 _ k51 c51 ?_
  refine .cons' 52 _ k52 c52 ?_
  refine .cons' 53 _ k53 c53 ?_
  refine .cons' 58 _ k58 c58 ?_
  refine .cons' 59 _ k59 c59 ?_
  refine .cons' 67 _ k67 c67 ?_
  refine .cons' 68 _ k68 c68 ?_
  refine .cons' 69 _ k69 c69 ?_
  refine .cons' 72 _ k72 c72 ?_
  refine .cons' 73 _ k73 c73 ?_
  refine .cons' 74 _ k74 c74 ?_
  refine .cons' 75 _ k75 c75 ?_
  refine .cons' 76 _ k76 c76 ?_
  refine .cons' 77 _ k77 c77 ?_
  refine .cons' 78 _ k78 c78 ?_
  refine .cons' 79 _ k79 c79 ?_
  refine .cons' 80 _ k80 c80 ?_
  refine .cons' 81 _ k81 c81 ?_
  refine .cons' 84 _ k84 c84 ?_
  refine .cons' 85 _ k85 c85 ?_
  refine .cons' 86 _ k86 c86 ?_
  refine .cons' 87 _ k87 c87 ?_
  refine .cons' 88 _ k88 c88 ?_
  refine .cons' 89 _ k89 c89 ?_
  refine .cons' 90 _ k90 c90 ?_
  refine .cons' 91 _ k91 c91 ?_
  refine .cons' 92 _ k92 c92 ?_
  refine .cons' 94 _ k94 c94 ?_
  refine .cons' 95 _ k95 c95 ?_
  refine .cons' 96 _ k96 c96 ?_
  refine .cons' 97 _ k97 c97 ?_
  refine .cons' 100 _ k100 c100 ?_
  refine .cons' 101 _ k101 c101 ?_
  refine .cons' 102 _ k102 c102 ?_
  refine .cons' 103 _ k103 c103 ?_
  refine .cons' 107 _ k107 c107 ?_
  refine .cons' 110 _ k110 c110 ?_
  refine .cons' 111 _ k111 c111 ?_
  refine .cons' 112 _ k112 c112 ?_
  refine .cons' 113 _ k113 c113 ?_
  refine .cons' 116 _ k116 c116 ?_
  refine .cons' 117 _ k117 c117 ?_
  refine .cons' 118 _ k118 c118 ?_
  refine .cons' 130 _ k130 c130 ?_
  exact .nil
theorem tb_ok : ∀ f d, look tb f = some d → ∃ fn, Tryz.prog.funcs[f]? = some fn ∧ CompFn Tryz.prog 4 fn d := tb_tbl.ok
end Go.Proofs.YtdpbbppjjjhnoaaGreatDoor.D
