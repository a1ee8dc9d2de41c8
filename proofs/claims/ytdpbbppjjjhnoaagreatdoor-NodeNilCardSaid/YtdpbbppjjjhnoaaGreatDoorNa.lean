/- The runs of the law NodeNil that hang on no undecided condition. No statement of the seat is proved in this text. -/
import Derived.Test.YtdpbbppjjjhnoaaGreatDoorTb
import Derived.Test.YtdpbbppjjjhnoaaGreatDoorEf
import Derived.Test.YtdpbbppjjjhnoaaGreatDoorRows
set_option linter.unusedVariables false
set_option maxRecDepth 100000
namespace Go.Proofs.YtdpbbppjjjhnoaaGreatDoor.D
open Go

/-- A message, but for its kind and the sender's node. -/
structure M0 where
  (to fl ep sq rq cl id un : Int) (flag : Bool) (o0 o1 o2 o3 o4 o5 o6 o7 o8 : Int) (cron : ByteArray) (r0 r1 r2 ce : Int) (ca : Option Addr) (cln ccp : Nat) (fa : Option Addr) (fln fcp : Nat) (lf : Int)

def cells (k fn : Int) (m : M0) : List Value := [.int .i64 k, .int .i64 m.to, .int .i64 fn, .int .i64 m.fl, .int .i64 m.ep, .int .i64 m.sq, .int .i64 m.rq, .int .i64 m.cl, .int .i64 m.id, .int .i64 m.un, .bool m.flag, .int .i64 m.o0, .int .i64 m.o1, .int .i64 m.o2, .int .i64 m.o3, .int .i64 m.o4, .int .i64 m.o5, .int .i64 m.o6, .int .i64 m.o7, .int .i64 m.o8, .string m.cron, .int .i64 m.r0, .int .i64 m.r1, .int .i64 m.r2, .int .i64 m.ce, .slice m.ca m.cln m.ccp, .slice m.fa m.fln m.fcp, .int .i64 m.lf]

noncomputable def st (f : Nat) (vs : List Value) (H : Heap) : Option (Value × Heap) := callM (look tb) nvNone 500 f vs H
def hp : Option (Value × Heap) → Heap
  | some (_, H) => H
  | none => ⟨fun _ _ => none, .leaf, 0⟩

abbrev vSetup : Value := .agg ⟨[.int .i64 3, .int .i64 2, .int .i64 5, .int .i64 1000, .int .i64 10, .int .i64 0, .int .i64 0]⟩
noncomputable def G : List (Nat × List Value) := (gOf Tryz.prog Rows.nodeNilRow.laid).getD []
noncomputable def h0 (W : World) (k fn : Int) (m : M0) : Heap := (heapG W G).push (.row (cells k fn m) 0)
noncomputable def h1 (W : World) (k fn : Int) (m : M0) : Heap := hp (st 5 [.int .i64 3] (h0 W k fn m))
noncomputable def h2 (W : World) (k fn : Int) (m : M0) : Heap := hp (st 4 [vSetup, .agg ⟨[.int .i64 2, .int .i64 4]⟩] (h1 W k fn m))
noncomputable def h3 (W : World) (k fn : Int) (m : M0) : Heap := hp (st 6 [] (h2 W k fn m))
noncomputable def h4 (W : World) (k fn : Int) (m : M0) : Heap := (h3 W k fn m).push (.row [.int .i64 m.ce, .slice m.ca m.cln m.ccp] 0)
noncomputable def h5 (W : World) (k fn : Int) (m : M0) (now : Int) : Heap := hp (st 8 [.pointer (some ⟨13, 0, none⟩), .int .i64 now] (h4 W k fn m))

theorem r5 (W : World) (k fn : Int) (m : M0) : st 5 [.int .i64 3] (h0 W k fn m) = some (vSetup, h1 W k fn m) := by kernel_rfl
theorem r4 (W : World) (k fn : Int) (m : M0) : st 4 [vSetup, .agg ⟨[.int .i64 2, .int .i64 4]⟩] (h1 W k fn m) = some (.tuple #[.pointer (some ⟨13, 0, none⟩), .int .i64 0], h2 W k fn m) := by kernel_rfl
theorem r6 (W : World) (k fn : Int) (m : M0) : st 6 [] (h2 W k fn m) = some (.bool true, h3 W k fn m) := by kernel_rfl
theorem r6' (W : World) (k fn : Int) (m : M0) : tru (st 6 [] (h3 W k fn m)) = true := by kernel_rfl
theorem g3 (W : World) (k fn : Int) (m : M0) : (h3 W k fn m).get 0 = some (.row (cells k fn m) 0) := by kernel_rfl
theorem n3 (W : World) (k fn : Int) (m : M0) : Nat.ble 1 (h3 W k fn m).next = true := by kernel_rfl
theorem r7 (ce : Int) (ca : Option Addr) (cln ccp : Nat) (H : Heap) : st 7 [.pointer none, .agg ⟨[.int .i64 ce, .slice ca cln ccp]⟩] H = some (.tuple #[], H.push (.row [.int .i64 ce, .slice ca cln ccp] 0)) := by kernel_rfl
theorem r8 (W : World) (k fn : Int) (m : M0) (now : Int) : st 8 [.pointer (some ⟨13, 0, none⟩), .int .i64 now] (h4 W k fn m) = some (.slice (some ⟨253, 0, none⟩) 1 1, h5 W k fn m now) := by kernel_rfl
theorem g5 (W : World) (k fn : Int) (m : M0) (now : Int) : (h5 W k fn m now).get 0 = some (.row (cells k fn m) 0) := by kernel_rfl
theorem n5 (W : World) (k fn : Int) (m : M0) (now : Int) : Nat.ble 254 (h5 W k fn m now).next = true := by kernel_rfl
theorem t5 (W : World) (k fn : Int) (m : M0) (now : Int) : (h5 W k fn m now).get 253 = some (.row [.int .i64 1, .int .i64 200, .int .i64 2, .int .i64 4, .int .i64 0, .int .i64 0, .int .i64 0, .int .i64 0, .int .i64 0, .int .i64 0, .bool false, .int .i64 0, .int .i64 0, .int .i64 0, .int .i64 0, .int .i64 0, .int .i64 0, .int .i64 0, .int .i64 0, .int .i64 0, .string ByteArray.empty, .int .i64 0, .int .i64 0, .int .i64 0, .int .i64 0, .slice none 0 0, .slice none 0 0, .int .i64 0] 28) := by kernel_rfl

abbrev yRow : List Value := [.int .i64 3, .int .i64 2, .int .i64 5, .int .i64 1000, .int .i64 10, .int .i64 0, .int .i64 0, .int .i64 2, .int .i64 4, .pointer (some ⟨12, 0, none⟩), .int .i64 0, .slice none 0 0, .bool false, .bool false, .int .i64 0, .bool false, .int .i64 (-1), .int .i64 0, .int .i64 0, .int .i64 0, .int .i64 0, .slice none 0 0]
theorem y5 (W : World) (k fn : Int) (m : M0) (now : Int) : (h5 W k fn m now).get 13 = some (.row yRow 0) := by kernel_rfl

/-- Nothing is said, and the first block is a message still. -/
def chk : Option (Value × Heap) → Bool
  | some (.slice none 0 0, H) => (match H.get 0 with | some (.row l 0) => Nat.beq l.length 28 && l.all oneC | _ => false) && Nat.ble 1 H.next
  | _ => false

end Go.Proofs.YtdpbbppjjjhnoaaGreatDoor.D
