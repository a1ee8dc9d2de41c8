/- The compiled functions of the seat, as the machine "D" runs them, and what each comes to (written by a program). No statement of the seat is proved in this text. -/
import Derived.Test.YtedeopeegicnbaaDoorDz
import Derived.Test.YtedeopeegicnbaaDoorProg
set_option maxRecDepth 100000
set_option linter.unusedVariables false
namespace Go.Proofs.YtedeopeegicnbaaDoor.D
open Go
/-- math/bits.Len32 -/
def c50_10 : C := .ret
def c50_9 : C := (.keep [2] c50_10)
def c50_8 : C := (.seq (.region [
      ⟨(some 13), (.pure .mov), [.t 2], none⟩,
      ⟨(some 14), (.pure .mov), [.t 0], none⟩,
      ⟨(some 15), (.pure (.conv .u8)), [.t 14], none⟩,
      ⟨(some 16), (.pure .idxStr), [.c (.string ⟨⟨[0, 1, 2, 2, 3, 3, 3, 3, 4, 4, 4, 4, 4, 4, 4, 4, 5, 5, 5, 5, 5, 5, 5, 5, 5, 5, 5, 5, 5, 5, 5, 5, 6, 6, 6, 6, 6, 6, 6, 6, 6, 6, 6, 6, 6, 6, 6, 6, 6, 6, 6, 6, 6, 6, 6, 6, 6, 6, 6, 6, 6, 6, 6, 6, 7, 7, 7, 7, 7, 7, 7, 7, 7, 7, 7, 7, 7, 7, 7, 7, 7, 7, 7, 7, 7, 7, 7, 7, 7, 7, 7, 7, 7, 7, 7, 7, 7, 7, 7, 7, 7, 7, 7, 7, 7, 7, 7, 7, 7, 7, 7, 7, 7, 7, 7, 7, 7, 7, 7, 7, 7, 7, 7, 7, 7, 7, 7, 7, 8, 8, 8, 8, 8, 8, 8, 8, 8, 8, 8, 8, 8, 8, 8, 8, 8, 8, 8, 8, 8, 8, 8, 8, 8, 8, 8, 8, 8, 8, 8, 8, 8, 8, 8, 8, 8, 8, 8, 8, 8, 8, 8, 8, 8, 8, 8, 8, 8, 8, 8, 8, 8, 8, 8, 8, 8, 8, 8, 8, 8, 8, 8, 8, 8, 8, 8, 8, 8, 8, 8, 8, 8, 8, 8, 8, 8, 8, 8, 8, 8, 8, 8, 8, 8, 8, 8, 8, 8, 8, 8, 8, 8, 8, 8, 8, 8, 8, 8, 8, 8, 8, 8, 8, 8, 8, 8, 8, 8, 8, 8, 8, 8, 8, 8, 8, 8, 8, 8, 8, 8, 8, 8, 8, 8, 8, 8, 8]⟩⟩), .t 15], none⟩,
      ⟨(some 17), (.pure (.conv .i64)), [.t 16], none⟩,
      ⟨(some 18), (.pure (.bin .add)), [.t 13, .t 17], none⟩,
      ⟨(some 2), (.pure .mov), [.t 18], none⟩] false) c50_9)
def c50_5 : C := (.keep [0, 2] c50_8)
def c50_7 : C := (.region [
      ⟨(some 11), (.pure .mov), [.t 2], none⟩,
      ⟨(some 12), (.pure (.bin .add)), [.t 11, .c (.int .i64 (Int.ofNat 8))], none⟩,
      ⟨(some 2), (.pure .mov), [.t 12], none⟩] false)
def c50_6 : C := (.cond (.t 8) (.seq (.region [
      ⟨(some 9), (.pure .mov), [.t 0], none⟩,
      ⟨(some 10), (.pure (.bin .shr)), [.t 9, .c (.int .u64 (Int.ofNat 8))], none⟩,
      ⟨(some 0), (.pure .mov), [.t 10], none⟩] false) c50_7)
    .skip)
def c50_4 : C := (.seq (.seq (.region [
      ⟨(some 7), (.pure .mov), [.t 0], none⟩,
      ⟨(some 8), (.pure (.bin .geq)), [.t 7, .c (.int .u32 (Int.ofNat 256))], none⟩] false) c50_6) c50_5)
def c50_1 : C := (.keep [0, 2] c50_4)
def c50_3 : C := (.region [
      ⟨(some 2), (.pure .mov), [.c (.int .i64 (Int.ofNat 16))], none⟩] false)
def c50_2 : C := (.cond (.t 4) (.seq (.region [
      ⟨(some 5), (.pure .mov), [.t 0], none⟩,
      ⟨(some 6), (.pure (.bin .shr)), [.t 5, .c (.int .u64 (Int.ofNat 16))], none⟩,
      ⟨(some 0), (.pure .mov), [.t 6], none⟩] false) c50_3)
    .skip)
def c50_0 : C := (.seq (.seq (.region [
      ⟨(some 3), (.pure .mov), [.t 0], none⟩,
      ⟨(some 4), (.pure (.bin .geq)), [.t 3, .c (.int .u32 (Int.ofNat 65536))], none⟩] false) c50_2) c50_1)
def k50 : DFn := ⟨19, (.seq (.region [
      ⟨(some 2), (.pure .mov), [.c (.int .i64 (Int.ofNat 0))], none⟩] false) c50_0), [.tmp 2]⟩
theorem c50 : (match Tryd.prog.funcs[50]? with | some fn => compileFn Tryd.prog 1 [none, some [0, 2], none, none, some [0, 2], none, none, none, some [2]] fn | none => none) = some k50 := by kernel_rfl
def w50_4 (tb : Nat → Option DFn) (nv : CallF) (t0 t2 : Value) (H : Heap) (Q : Value → Heap → Prop) : Prop := wC tb nv c50_4 (mkW [(0, t0), (2, t2)]) H (kFn [.tmp 2] Q)
def w50_8 (tb : Nat → Option DFn) (nv : CallF) (t0 t2 : Value) (H : Heap) (Q : Value → Heap → Prop) : Prop := wC tb nv c50_8 (mkW [(0, t0), (2, t2)]) H (kFn [.tmp 2] Q)
theorem e50 (tb : Nat → Option DFn) (nv : CallF) (a0 : Value) (H : Heap) (Q : Value → Heap → Prop) : wFn tb nv k50 [a0] H Q = (
    wP (.bin .geq) [a0, (.int .u32 65536)] fun x0 =>
    asB x0 fun b1 => onB b1 (wP (.bin .shr) [a0, (.int .u64 16)] fun x2 =>
    atK (w50_4 tb nv x2 (.int .i64 16) H Q))
    (atK (w50_4 tb nv a0 (.int .i64 0) H Q))) := by kernel_rfl
theorem e50_4 (tb : Nat → Option DFn) (nv : CallF) (t0 t2 : Value) (H : Heap) (Q : Value → Heap → Prop) : w50_4 tb nv t0 t2 H Q = (
    wP (.bin .geq) [t0, (.int .u32 256)] fun x3 =>
    asB x3 fun b4 => onB b4 (wP (.bin .shr) [t0, (.int .u64 8)] fun x5 =>
    wP (.bin .add) [t2, (.int .i64 8)] fun x6 =>
    atK (w50_8 tb nv x5 x6 H Q))
    (atK (w50_8 tb nv t0 t2 H Q))) := by kernel_rfl
theorem e50_8 (tb : Nat → Option DFn) (nv : CallF) (t0 t2 : Value) (H : Heap) (Q : Value → Heap → Prop) : w50_8 tb nv t0 t2 H Q = (
    wP (.conv .u8) [t0] fun x7 =>
    wP .idxStr [(.string ⟨⟨[0, 1, 2, 2, 3, 3, 3, 3, 4, 4, 4, 4, 4, 4, 4, 4, 5, 5, 5, 5, 5, 5, 5, 5, 5, 5, 5, 5, 5, 5, 5, 5, 6, 6, 6, 6, 6, 6, 6, 6, 6, 6, 6, 6, 6, 6, 6, 6, 6, 6, 6, 6, 6, 6, 6, 6, 6, 6, 6, 6, 6, 6, 6, 6, 7, 7, 7, 7, 7, 7, 7, 7, 7, 7, 7, 7, 7, 7, 7, 7, 7, 7, 7, 7, 7, 7, 7, 7, 7, 7, 7, 7, 7, 7, 7, 7, 7, 7, 7, 7, 7, 7, 7, 7, 7, 7, 7, 7, 7, 7, 7, 7, 7, 7, 7, 7, 7, 7, 7, 7, 7, 7, 7, 7, 7, 7, 7, 7, 8, 8, 8, 8, 8, 8, 8, 8, 8, 8, 8, 8, 8, 8, 8, 8, 8, 8, 8, 8, 8, 8, 8, 8, 8, 8, 8, 8, 8, 8, 8, 8, 8, 8, 8, 8, 8, 8, 8, 8, 8, 8, 8, 8, 8, 8, 8, 8, 8, 8, 8, 8, 8, 8, 8, 8, 8, 8, 8, 8, 8, 8, 8, 8, 8, 8, 8, 8, 8, 8, 8, 8, 8, 8, 8, 8, 8, 8, 8, 8, 8, 8, 8, 8, 8, 8, 8, 8, 8, 8, 8, 8, 8, 8, 8, 8, 8, 8, 8, 8, 8, 8, 8, 8, 8, 8, 8, 8, 8, 8, 8, 8, 8, 8, 8, 8, 8, 8, 8, 8, 8, 8, 8, 8, 8, 8, 8, 8]⟩⟩), x7] fun x8 =>
    wP (.conv .i64) [x8] fun x9 =>
    wP (.bin .add) [t2, x9] fun x10 =>
    atK (Q x10 H)) := by kernel_rfl

/-- slices.siftDownCmpFunc[[2]int] -/
def c51_14 : C := .skip
def c51_2 : C := (.keep [0, 2, 3, 4, 10] c51_14)
def c51_13 : C := (.region [
      ⟨(some 81), (.pure .mov), [.t 11], none⟩,
      ⟨(some 10), (.pure .mov), [.t 81], none⟩] false)
def c51_10 : C := (.seq (.region [
      ⟨(some 59), (.pure .mov), [.t 0], none⟩,
      ⟨(some 60), (.pure .mov), [.t 3], none⟩,
      ⟨(some 61), (.pure .mov), [.t 10], none⟩,
      ⟨(some 62), (.pure (.bin .add)), [.t 60, .t 61], none⟩,
      ⟨(some 63), (.pure .mov), [.t 0], none⟩,
      ⟨(some 64), (.pure .mov), [.t 3], none⟩,
      ⟨(some 65), (.pure .mov), [.t 11], none⟩,
      ⟨(some 66), (.pure (.bin .add)), [.t 64, .t 65], none⟩,
      ⟨(some 67), (.pure .mov), [.t 0], none⟩,
      ⟨(some 68), (.pure .mov), [.t 3], none⟩,
      ⟨(some 69), (.pure .mov), [.t 11], none⟩,
      ⟨(some 70), (.pure (.bin .add)), [.t 68, .t 69], none⟩,
      ⟨(some 71), (.pure (.iaddS 2)), [.t 67, .t 70], none⟩,
      ⟨(some 72), (.read (.load 2 true) []), [.t 71], none⟩,
      ⟨(some 73), (.pure .mov), [.t 0], none⟩,
      ⟨(some 74), (.pure .mov), [.t 3], none⟩,
      ⟨(some 75), (.pure .mov), [.t 10], none⟩,
      ⟨(some 76), (.pure (.bin .add)), [.t 74, .t 75], none⟩,
      ⟨(some 77), (.pure (.iaddS 2)), [.t 73, .t 76], none⟩,
      ⟨(some 78), (.read (.load 2 true) []), [.t 77], none⟩,
      ⟨(some 79), (.pure (.iaddS 2)), [.t 59, .t 62], none⟩,
      ⟨none, (.eff (.store 2)), [.t 79, .t 72], none⟩,
      ⟨(some 80), (.pure (.iaddS 2)), [.t 63, .t 66], none⟩,
      ⟨none, (.eff (.store 2)), [.t 80, .t 78], none⟩] false) c51_13)
def c51_12 : C := .ret
def c51_11 : C := (.cond (.t 58) (.keep [] c51_12)
    .skip)
def c51_9 : C := (.seq (.seq (.region [
      ⟨(some 43), (.pure .mov), [.t 4], none⟩,
      ⟨(some 44), (.pure .mov), [.t 0], none⟩,
      ⟨(some 45), (.pure .mov), [.t 3], none⟩,
      ⟨(some 46), (.pure .mov), [.t 10], none⟩,
      ⟨(some 47), (.pure (.bin .add)), [.t 45, .t 46], none⟩,
      ⟨(some 48), (.pure (.iaddS 2)), [.t 44, .t 47], none⟩,
      ⟨(some 49), (.read (.load 2 true) []), [.t 48], none⟩,
      ⟨(some 50), (.pure .mov), [.t 0], none⟩,
      ⟨(some 51), (.pure .mov), [.t 3], none⟩,
      ⟨(some 52), (.pure .mov), [.t 11], none⟩,
      ⟨(some 53), (.pure (.bin .add)), [.t 51, .t 52], none⟩,
      ⟨(some 54), (.pure (.iaddS 2)), [.t 50, .t 53], none⟩,
      ⟨(some 55), (.read (.load 2 true) []), [.t 54], none⟩,
      ⟨(some 56), .callv, [.t 43, .t 49, .t 55], none⟩,
      ⟨(some 57), (.pure (.bin .lss)), [.t 56, .c (.int .i64 (Int.ofNat 0))], none⟩,
      ⟨(some 58), (.pure (.un .not)), [.t 57], none⟩] false) c51_11) c51_10)
def c51_7 : C := (.keep [0, 2, 3, 4, 10, 11] c51_9)
def c51_8 : C := (.cond (.t 40) (.region [
      ⟨(some 41), (.pure .mov), [.t 11], none⟩,
      ⟨(some 42), (.pure (.bin .add)), [.t 41, .c (.int .i64 (Int.ofNat 1))], none⟩,
      ⟨(some 11), (.pure .mov), [.t 42], none⟩] false)
    .skip)
def c51_4 : C := (.seq (.seq (.region [
      ⟨(some 19), (.pure .mov), [.t 11], none⟩,
      ⟨(some 20), (.pure (.bin .add)), [.t 19, .c (.int .i64 (Int.ofNat 1))], none⟩,
      ⟨(some 21), (.pure .mov), [.t 2], none⟩,
      ⟨(some 22), (.pure (.bin .lss)), [.t 20, .t 21], none⟩,
      ⟨(some 23), (.pure .mov), [.t 22], none⟩,
      ⟨(some 24), (.pure .mov), [.t 4], (some (23, true))⟩,
      ⟨(some 25), (.pure .mov), [.t 0], (some (23, true))⟩,
      ⟨(some 26), (.pure .mov), [.t 3], (some (23, true))⟩,
      ⟨(some 27), (.pure .mov), [.t 11], (some (23, true))⟩,
      ⟨(some 28), (.pure (.bin .add)), [.t 26, .t 27], (some (23, true))⟩,
      ⟨(some 29), (.pure (.iaddS 2)), [.t 25, .t 28], (some (23, true))⟩,
      ⟨(some 30), (.read (.load 2 true) []), [.t 29], (some (23, true))⟩,
      ⟨(some 31), (.pure .mov), [.t 0], (some (23, true))⟩,
      ⟨(some 32), (.pure .mov), [.t 3], (some (23, true))⟩,
      ⟨(some 33), (.pure .mov), [.t 11], (some (23, true))⟩,
      ⟨(some 34), (.pure (.bin .add)), [.t 32, .t 33], (some (23, true))⟩,
      ⟨(some 35), (.pure (.bin .add)), [.t 34, .c (.int .i64 (Int.ofNat 1))], (some (23, true))⟩,
      ⟨(some 36), (.pure (.iaddS 2)), [.t 31, .t 35], (some (23, true))⟩,
      ⟨(some 37), (.read (.load 2 true) []), [.t 36], (some (23, true))⟩,
      ⟨(some 38), .callv, [.t 24, .t 30, .t 37], (some (23, true))⟩,
      ⟨(some 39), (.pure (.bin .lss)), [.t 38, .c (.int .i64 (Int.ofNat 0))], (some (23, true))⟩,
      ⟨(some 40), (.pure .pick), [.t 23, .t 39, .c (.bool false)], none⟩] false) c51_8) c51_7)
def c51_6 : C := (.exit 0)
def c51_5 : C := (.cond (.t 18) (.keep [] c51_6)
    .skip)
def c51_3 : C := (.seq (.seq (.region [
      ⟨(some 16), (.pure .mov), [.t 11], none⟩,
      ⟨(some 17), (.pure .mov), [.t 2], none⟩,
      ⟨(some 18), (.pure (.bin .geq)), [.t 16, .t 17], none⟩] false) c51_5) c51_4)
def c51_1 : C := (.seq (.block 1 (.seq (.region [
      ⟨(some 13), (.pure .mov), [.t 10], none⟩,
      ⟨(some 14), (.pure (.bin .mul)), [.c (.int .i64 (Int.ofNat 2)), .t 13], none⟩,
      ⟨(some 15), (.pure (.bin .add)), [.t 14, .c (.int .i64 (Int.ofNat 1))], none⟩,
      ⟨(some 11), (.pure .mov), [.t 15], none⟩] false) c51_3)) c51_2)
def c51_0 : C := (.block 0 (.loop (some [0, 2, 3, 4, 10]) c51_1))
def k51 : DFn := ⟨82, (.seq (.region [
      ⟨(some 12), (.pure .mov), [.t 1], none⟩,
      ⟨(some 10), (.pure .mov), [.t 12], none⟩] false) c51_0), []⟩
theorem c51 : (match Tryd.prog.funcs[51]? with | some fn => compileFn Tryd.prog 1 [none, some [0, 2, 3, 4, 10], none, none, none, some [], some [0, 2, 3, 4, 10, 11], none, none, none, some [], none] fn | none => none) = some k51 := by kernel_rfl
def q51_0 (tb : Nat → Option DFn) (nv : CallF) (Q : Value → Heap → Prop) : Kont := kBlk 0 (kFn [] Q)
def q51_1 (tb : Nat → Option DFn) (nv : CallF) (K : Kont) : Kont := kSeq (fun wf H => wC tb nv c51_2 wf H K) K
def q51_2 (tb : Nat → Option DFn) (nv : CallF) (K : Kont) : Kont := kBlk 1 (q51_1 tb nv K)
def w51_9 (tb : Nat → Option DFn) (nv : CallF) (t0 t2 t3 t4 t10 t11 : Value) (H : Heap) (K : Kont) : Prop := wC tb nv c51_9 (mkW [(0, t0), (2, t2), (3, t3), (4, t4), (10, t10), (11, t11)]) H (q51_2 tb nv K)
theorem e51 (tb : Nat → Option DFn) (nv : CallF) (a0 a1 a2 a3 a4 : Value) (H : Heap) (Q : Value → Heap → Prop) : wFn tb nv k51 [a0, a1, a2, a3, a4] H Q = (
    wLoop tb nv c51_1 [0, 2, 3, 4, 10] (mkW [(0, a0), (2, a2), (3, a3), (4, a4), (10, a1)]) H (q51_0 tb nv Q)) := by kernel_rfl
theorem l51_1 (tb : Nat → Option DFn) (nv : CallF) (t0 t2 t3 t4 t10 : Value) (H : Heap) (K : Kont) : wC tb nv c51_1 (mkW [(0, t0), (2, t2), (3, t3), (4, t4), (10, t10)]) H K = (
    wP (.bin .mul) [(.int .i64 2), t10] fun x0 =>
    wP (.bin .add) [x0, (.int .i64 1)] fun x1 =>
    wP (.bin .geq) [x1, t2] fun x2 =>
    asB x2 fun b3 => onB b3 (atK (K (.exit 0) (mkW []) H))
    (wP (.bin .add) [x1, (.int .i64 1)] fun x4 =>
    wP (.bin .lss) [x4, t2] fun x5 =>
    asB x5 fun b6 => onB b6 (wP (.bin .add) [t3, x1] fun x7 =>
    wP (.iaddS 2) [t0, x7] fun x8 =>
    wR (.load 2 true) [x8] H fun x9 =>
    wP (.bin .add) [t3, x1] fun x10 =>
    wP (.bin .add) [x10, (.int .i64 1)] fun x11 =>
    wP (.iaddS 2) [t0, x11] fun x12 =>
    wR (.load 2 true) [x12] H fun x13 =>
    wIns (Ev tb nv) .callv [t4, x9, x13] H fun x14 H15 =>
    wP (.bin .lss) [x14, (.int .i64 0)] fun x16 =>
    asB x16 fun b17 => onB b17 (wP (.bin .add) [x1, (.int .i64 1)] fun x18 =>
    atK (w51_9 tb nv t0 t2 t3 t4 t10 x18 H15 K))
    (atK (w51_9 tb nv t0 t2 t3 t4 t10 x1 H15 K)))
    (atK (w51_9 tb nv t0 t2 t3 t4 t10 x1 H K)))) := by kernel_rfl
theorem x51_1_0 (tb : Nat → Option DFn) (nv : CallF) (H : Heap) (Q : Value → Heap → Prop) : (q51_0 tb nv Q) (.exit 0) (mkW []) H = (
    Q (.tuple ⟨[]⟩) H) := by kernel_rfl
theorem e51_9 (tb : Nat → Option DFn) (nv : CallF) (t0 t2 t3 t4 t10 t11 : Value) (H : Heap) (K : Kont) : w51_9 tb nv t0 t2 t3 t4 t10 t11 H K = (
    wP (.bin .add) [t3, t10] fun x19 =>
    wP (.iaddS 2) [t0, x19] fun x20 =>
    wR (.load 2 true) [x20] H fun x21 =>
    wP (.bin .add) [t3, t11] fun x22 =>
    wP (.iaddS 2) [t0, x22] fun x23 =>
    wR (.load 2 true) [x23] H fun x24 =>
    wIns (Ev tb nv) .callv [t4, x21, x24] H fun x25 H26 =>
    wP (.bin .lss) [x25, (.int .i64 0)] fun x27 =>
    wP (.un .not) [x27] fun x28 =>
    asB x28 fun b29 => onB b29 (atK (K .ret (mkW []) H26))
    (wP (.bin .add) [t3, t10] fun x30 =>
    wP (.bin .add) [t3, t11] fun x31 =>
    wP (.bin .add) [t3, t11] fun x32 =>
    wP (.iaddS 2) [t0, x32] fun x33 =>
    wR (.load 2 true) [x33] H26 fun x34 =>
    wP (.bin .add) [t3, t10] fun x35 =>
    wP (.iaddS 2) [t0, x35] fun x36 =>
    wR (.load 2 true) [x36] H26 fun x37 =>
    wP (.iaddS 2) [t0, x30] fun x38 =>
    wE (.store 2) [x38, x34] H26 fun x39 H40 =>
    wP (.iaddS 2) [t0, x31] fun x41 =>
    wE (.store 2) [x41, x37] H40 fun x42 H43 =>
    atK (K .normal (mkW [(0, t0), (2, t2), (3, t3), (4, t4), (10, t11)]) H43))) := by kernel_rfl

/-- slices.nextPowerOfTwo -/
def c52_2 : C := .ret
def c52_1 : C := (.keep [2] c52_2)
def c52_0 : C := (.seq (.region [
      ⟨(some 3), (.pure .mov), [.t 0], none⟩,
      ⟨(some 4), (.pure (.conv .u64)), [.t 3], none⟩,
      ⟨(some 5), (.call 39), [.t 4], none⟩,
      ⟨(some 6), (.pure (.bin .shl)), [.c (.int .u64 (Int.ofNat 1)), .t 5], none⟩,
      ⟨(some 2), (.pure .mov), [.t 6], none⟩] false) c52_1)
def k52 : DFn := ⟨7, (.seq (.region [
      ⟨(some 2), (.pure .mov), [.c (.int .u64 (Int.ofNat 0))], none⟩] false) c52_0), [.tmp 2]⟩
theorem c52 : (match Tryd.prog.funcs[52]? with | some fn => compileFn Tryd.prog 1 [none, none, some [2]] fn | none => none) = some k52 := by kernel_rfl
theorem e52 (tb : Nat → Option DFn) (nv : CallF) (a0 : Value) (H : Heap) (Q : Value → Heap → Prop) : wFn tb nv k52 [a0] H Q = (
    wP (.conv .u64) [a0] fun x0 =>
    Ev tb nv 39 [x0] H fun x1 H2 =>
    wP (.bin .shl) [(.int .u64 1), x1] fun x3 =>
    atK (Q x3 H2)) := by kernel_rfl

/-- (*slices.xorshift).Next -/
def c53_5 : C := .ret
def c53_4 : C := (.keep [2] c53_5)
def c53_3 : C := (.seq (.region [
      ⟨(some 30), (.pure .mov), [.t 0], none⟩,
      ⟨(some 31), (.pure .nilchk), [.t 30], none⟩,
      ⟨(some 32), (.read (.load 1 false) []), [.t 31], none⟩,
      ⟨(some 2), (.pure .mov), [.t 32], none⟩] false) c53_4)
def c53_2 : C := (.seq (.region [
      ⟨(some 21), (.pure .mov), [.t 0], none⟩,
      ⟨(some 22), (.pure .nilchk), [.t 21], none⟩,
      ⟨(some 23), (.read (.load 1 false) []), [.t 22], none⟩,
      ⟨(some 24), (.pure .mov), [.t 0], none⟩,
      ⟨(some 25), (.pure .nilchk), [.t 24], none⟩,
      ⟨(some 26), (.read (.load 1 false) []), [.t 25], none⟩,
      ⟨(some 27), (.pure (.bin .shl)), [.t 26, .c (.int .u64 (Int.ofNat 17))], none⟩,
      ⟨(some 28), (.pure (.bin .xor)), [.t 23, .t 27], none⟩,
      ⟨(some 29), (.pure .nilchk), [.t 21], none⟩,
      ⟨none, (.eff (.store 1)), [.t 29, .t 28], none⟩] false) c53_3)
def c53_1 : C := (.seq (.region [
      ⟨(some 12), (.pure .mov), [.t 0], none⟩,
      ⟨(some 13), (.pure .nilchk), [.t 12], none⟩,
      ⟨(some 14), (.read (.load 1 false) []), [.t 13], none⟩,
      ⟨(some 15), (.pure .mov), [.t 0], none⟩,
      ⟨(some 16), (.pure .nilchk), [.t 15], none⟩,
      ⟨(some 17), (.read (.load 1 false) []), [.t 16], none⟩,
      ⟨(some 18), (.pure (.bin .shr)), [.t 17, .c (.int .u64 (Int.ofNat 7))], none⟩,
      ⟨(some 19), (.pure (.bin .xor)), [.t 14, .t 18], none⟩,
      ⟨(some 20), (.pure .nilchk), [.t 12], none⟩,
      ⟨none, (.eff (.store 1)), [.t 20, .t 19], none⟩] false) c53_2)
def c53_0 : C := (.seq (.region [
      ⟨(some 3), (.pure .mov), [.t 0], none⟩,
      ⟨(some 4), (.pure .nilchk), [.t 3], none⟩,
      ⟨(some 5), (.read (.load 1 false) []), [.t 4], none⟩,
      ⟨(some 6), (.pure .mov), [.t 0], none⟩,
      ⟨(some 7), (.pure .nilchk), [.t 6], none⟩,
      ⟨(some 8), (.read (.load 1 false) []), [.t 7], none⟩,
      ⟨(some 9), (.pure (.bin .shl)), [.t 8, .c (.int .u64 (Int.ofNat 13))], none⟩,
      ⟨(some 10), (.pure (.bin .xor)), [.t 5, .t 9], none⟩,
      ⟨(some 11), (.pure .nilchk), [.t 3], none⟩,
      ⟨none, (.eff (.store 1)), [.t 11, .t 10], none⟩] false) c53_1)
def k53 : DFn := ⟨33, (.seq (.region [
      ⟨(some 2), (.pure .mov), [.c (.int .u64 (Int.ofNat 0))], none⟩] false) c53_0), [.tmp 2]⟩
theorem c53 : (match Tryd.prog.funcs[53]? with | some fn => compileFn Tryd.prog 1 [none, none, none, none, none, some [2]] fn | none => none) = some k53 := by kernel_rfl
theorem e53 (tb : Nat → Option DFn) (nv : CallF) (a0 : Value) (H : Heap) (Q : Value → Heap → Prop) : wFn tb nv k53 [a0] H Q = (
    wP .nilchk [a0] fun x0 =>
    wR (.load 1 false) [x0] H fun x1 =>
    wP .nilchk [a0] fun x2 =>
    wR (.load 1 false) [x2] H fun x3 =>
    wP (.bin .shl) [x3, (.int .u64 13)] fun x4 =>
    wP (.bin .xor) [x1, x4] fun x5 =>
    wP .nilchk [a0] fun x6 =>
    wE (.store 1) [x6, x5] H fun x7 H8 =>
    wP .nilchk [a0] fun x9 =>
    wR (.load 1 false) [x9] H8 fun x10 =>
    wP .nilchk [a0] fun x11 =>
    wR (.load 1 false) [x11] H8 fun x12 =>
    wP (.bin .shr) [x12, (.int .u64 7)] fun x13 =>
    wP (.bin .xor) [x10, x13] fun x14 =>
    wP .nilchk [a0] fun x15 =>
    wE (.store 1) [x15, x14] H8 fun x16 H17 =>
    wP .nilchk [a0] fun x18 =>
    wR (.load 1 false) [x18] H17 fun x19 =>
    wP .nilchk [a0] fun x20 =>
    wR (.load 1 false) [x20] H17 fun x21 =>
    wP (.bin .shl) [x21, (.int .u64 17)] fun x22 =>
    wP (.bin .xor) [x19, x22] fun x23 =>
    wP .nilchk [a0] fun x24 =>
    wE (.store 1) [x24, x23] H17 fun x25 H26 =>
    wP .nilchk [a0] fun x27 =>
    wR (.load 1 false) [x27] H26 fun x28 =>
    atK (Q x28 H26)) := by kernel_rfl

/-- slices.medianAdjacentCmpFunc[[2]int] -/
def c54_2 : C := .ret
def c54_1 : C := (.keep [8] c54_2)
def c54_0 : C := (.seq (.region [
      ⟨(some 9), (.pure .mov), [.t 0], none⟩,
      ⟨(some 10), (.pure .mov), [.t 1], none⟩,
      ⟨(some 11), (.pure (.bin .sub)), [.t 10, .c (.int .i64 (Int.ofNat 1))], none⟩,
      ⟨(some 12), (.pure .mov), [.t 1], none⟩,
      ⟨(some 13), (.pure .mov), [.t 1], none⟩,
      ⟨(some 14), (.pure (.bin .add)), [.t 13, .c (.int .i64 (Int.ofNat 1))], none⟩,
      ⟨(some 15), (.pure .mov), [.t 2], none⟩,
      ⟨(some 16), (.pure .mov), [.t 3], none⟩,
      ⟨(some 17), (.call 55), [.t 9, .t 11, .t 12, .t 14, .t 15, .t 16], none⟩,
      ⟨(some 8), (.pure .mov), [.t 17], none⟩] false) c54_1)
def k54 : DFn := ⟨18, (.seq (.region [
      ⟨(some 8), (.pure .mov), [.c (.int .i64 (Int.ofNat 0))], none⟩] false) c54_0), [.tmp 8]⟩
theorem c54 : (match Tryd.prog.funcs[54]? with | some fn => compileFn Tryd.prog 1 [none, none, some [8]] fn | none => none) = some k54 := by kernel_rfl
theorem e54 (tb : Nat → Option DFn) (nv : CallF) (a0 a1 a2 a3 : Value) (H : Heap) (Q : Value → Heap → Prop) : wFn tb nv k54 [a0, a1, a2, a3] H Q = (
    wP (.bin .sub) [a1, (.int .i64 1)] fun x0 =>
    wP (.bin .add) [a1, (.int .i64 1)] fun x1 =>
    Ev tb nv 55 [a0, x0, a1, x1, a2, a3] H fun x2 H3 =>
    atK (Q x2 H3)) := by kernel_rfl

/-- slices.medianCmpFunc[[2]int] -/
def c55_5 : C := .ret
def c55_4 : C := (.keep [12] c55_5)
def c55_3 : C := (.seq (.region [
      ⟨(some 40), (.pure .mov), [.t 2], none⟩,
      ⟨(some 12), (.pure .mov), [.t 40], none⟩] false) c55_4)
def c55_2 : C := (.seq (.region [
      ⟨(some 32), (.pure .mov), [.t 0], none⟩,
      ⟨(some 33), (.pure .mov), [.t 1], none⟩,
      ⟨(some 34), (.pure .mov), [.t 2], none⟩,
      ⟨(some 35), (.pure .mov), [.t 4], none⟩,
      ⟨(some 36), (.pure .mov), [.t 5], none⟩,
      ⟨(some 37), (.call 56), [.t 32, .t 33, .t 34, .t 35, .t 36], none⟩,
      ⟨(some 31), (.pure .mov), [.t 37], none⟩,
      ⟨(some 38), (.pure (.extract 0)), [.t 31], none⟩,
      ⟨(some 39), (.pure (.extract 1)), [.t 31], none⟩,
      ⟨(some 1), (.pure .mov), [.t 38], none⟩,
      ⟨(some 2), (.pure .mov), [.t 39], none⟩] false) c55_3)
def c55_1 : C := (.seq (.region [
      ⟨(some 23), (.pure .mov), [.t 0], none⟩,
      ⟨(some 24), (.pure .mov), [.t 2], none⟩,
      ⟨(some 25), (.pure .mov), [.t 3], none⟩,
      ⟨(some 26), (.pure .mov), [.t 4], none⟩,
      ⟨(some 27), (.pure .mov), [.t 5], none⟩,
      ⟨(some 28), (.call 56), [.t 23, .t 24, .t 25, .t 26, .t 27], none⟩,
      ⟨(some 22), (.pure .mov), [.t 28], none⟩,
      ⟨(some 29), (.pure (.extract 0)), [.t 22], none⟩,
      ⟨(some 30), (.pure (.extract 1)), [.t 22], none⟩,
      ⟨(some 2), (.pure .mov), [.t 29], none⟩,
      ⟨(some 3), (.pure .mov), [.t 30], none⟩] false) c55_2)
def c55_0 : C := (.seq (.region [
      ⟨(some 14), (.pure .mov), [.t 0], none⟩,
      ⟨(some 15), (.pure .mov), [.t 1], none⟩,
      ⟨(some 16), (.pure .mov), [.t 2], none⟩,
      ⟨(some 17), (.pure .mov), [.t 4], none⟩,
      ⟨(some 18), (.pure .mov), [.t 5], none⟩,
      ⟨(some 19), (.call 56), [.t 14, .t 15, .t 16, .t 17, .t 18], none⟩,
      ⟨(some 13), (.pure .mov), [.t 19], none⟩,
      ⟨(some 20), (.pure (.extract 0)), [.t 13], none⟩,
      ⟨(some 21), (.pure (.extract 1)), [.t 13], none⟩,
      ⟨(some 1), (.pure .mov), [.t 20], none⟩,
      ⟨(some 2), (.pure .mov), [.t 21], none⟩] false) c55_1)
def k55 : DFn := ⟨41, (.seq (.region [
      ⟨(some 12), (.pure .mov), [.c (.int .i64 (Int.ofNat 0))], none⟩] false) c55_0), [.tmp 12]⟩
theorem c55 : (match Tryd.prog.funcs[55]? with | some fn => compileFn Tryd.prog 1 [none, none, none, none, none, some [12]] fn | none => none) = some k55 := by kernel_rfl
theorem e55 (tb : Nat → Option DFn) (nv : CallF) (a0 a1 a2 a3 a4 a5 : Value) (H : Heap) (Q : Value → Heap → Prop) : wFn tb nv k55 [a0, a1, a2, a3, a4, a5] H Q = (
    Ev tb nv 56 [a0, a1, a2, a4, a5] H fun x0 H1 =>
    wP (.extract 0) [x0] fun x2 =>
    wP (.extract 1) [x0] fun x3 =>
    Ev tb nv 56 [a0, x3, a3, a4, a5] H1 fun x4 H5 =>
    wP (.extract 0) [x4] fun x6 =>
    wP (.extract 1) [x4] fun x7 =>
    Ev tb nv 56 [a0, x2, x6, a4, a5] H5 fun x8 H9 =>
    wP (.extract 0) [x8] fun x10 =>
    wP (.extract 1) [x8] fun x11 =>
    atK (Q x11 H9)) := by kernel_rfl

/-- slices.order2CmpFunc[[2]int] -/
def c56_7 : C := .ret
def c56_6 : C := (.keep [10, 11] c56_7)
def c56_1 : C := (.seq (.region [
      ⟨(some 30), (.pure .mov), [.t 1], none⟩,
      ⟨(some 31), (.pure .mov), [.t 2], none⟩,
      ⟨(some 10), (.pure .mov), [.t 30], none⟩,
      ⟨(some 11), (.pure .mov), [.t 31], none⟩] false) c56_6)
def c56_5 : C := .ret
def c56_4 : C := (.keep [10, 11] c56_5)
def c56_3 : C := (.seq (.region [
      ⟨(some 28), (.pure .mov), [.t 2], none⟩,
      ⟨(some 29), (.pure .mov), [.t 1], none⟩,
      ⟨(some 10), (.pure .mov), [.t 28], none⟩,
      ⟨(some 11), (.pure .mov), [.t 29], none⟩] false) c56_4)
def c56_2 : C := (.cond (.t 22) (.seq (.region [
      ⟨(some 23), (.pure .mov), [.t 3], none⟩,
      ⟨(some 24), (.pure .nilchk), [.t 23], none⟩,
      ⟨(some 25), (.read (.load 1 false) []), [.t 24], none⟩,
      ⟨(some 26), (.pure (.bin .add)), [.t 25, .c (.int .i64 (Int.ofNat 1))], none⟩,
      ⟨(some 27), (.pure .nilchk), [.t 23], none⟩,
      ⟨none, (.eff (.store 1)), [.t 27, .t 26], none⟩] false) c56_3)
    .skip)
def c56_0 : C := (.seq (.seq (.region [
      ⟨(some 12), (.pure .mov), [.t 4], none⟩,
      ⟨(some 13), (.pure .mov), [.t 0], none⟩,
      ⟨(some 14), (.pure .mov), [.t 2], none⟩,
      ⟨(some 15), (.pure (.iaddS 2)), [.t 13, .t 14], none⟩,
      ⟨(some 16), (.read (.load 2 true) []), [.t 15], none⟩,
      ⟨(some 17), (.pure .mov), [.t 0], none⟩,
      ⟨(some 18), (.pure .mov), [.t 1], none⟩,
      ⟨(some 19), (.pure (.iaddS 2)), [.t 17, .t 18], none⟩,
      ⟨(some 20), (.read (.load 2 true) []), [.t 19], none⟩,
      ⟨(some 21), .callv, [.t 12, .t 16, .t 20], none⟩,
      ⟨(some 22), (.pure (.bin .lss)), [.t 21, .c (.int .i64 (Int.ofNat 0))], none⟩] false) c56_2) c56_1)
def k56 : DFn := ⟨32, (.seq (.region [
      ⟨(some 10), (.pure .mov), [.c (.int .i64 (Int.ofNat 0))], none⟩,
      ⟨(some 11), (.pure .mov), [.c (.int .i64 (Int.ofNat 0))], none⟩] false) c56_0), [.tmp 10, .tmp 11]⟩
theorem c56 : (match Tryd.prog.funcs[56]? with | some fn => compileFn Tryd.prog 1 [none, none, none, none, none, some [10, 11], none, some [10, 11]] fn | none => none) = some k56 := by kernel_rfl
theorem e56 (tb : Nat → Option DFn) (nv : CallF) (a0 a1 a2 a3 a4 : Value) (H : Heap) (Q : Value → Heap → Prop) : wFn tb nv k56 [a0, a1, a2, a3, a4] H Q = (
    wP (.iaddS 2) [a0, a2] fun x0 =>
    wR (.load 2 true) [x0] H fun x1 =>
    wP (.iaddS 2) [a0, a1] fun x2 =>
    wR (.load 2 true) [x2] H fun x3 =>
    wIns (Ev tb nv) .callv [a4, x1, x3] H fun x4 H5 =>
    wP (.bin .lss) [x4, (.int .i64 0)] fun x6 =>
    asB x6 fun b7 => onB b7 (wP .nilchk [a3] fun x8 =>
    wR (.load 1 false) [x8] H5 fun x9 =>
    wP (.bin .add) [x9, (.int .i64 1)] fun x10 =>
    wP .nilchk [a3] fun x11 =>
    wE (.store 1) [x11, x10] H5 fun x12 H13 =>
    atK (Q (.tuple ⟨[a2, a1]⟩) H13))
    (atK (Q (.tuple ⟨[a1, a2]⟩) H5))) := by kernel_rfl

/-- gosem.cut.vars -/

def k76 : DFn := ⟨1, (.region [
      ⟨(some 0), (.pure (.build [(.int .u8 (Int.ofNat 0)), (.int .u8 (Int.ofNat 0)), (.int .u8 (Int.ofNat 0)), (.int .u8 (Int.ofNat 0)), (.int .u8 (Int.ofNat 0)), (.int .u8 (Int.ofNat 0)), (.int .u8 (Int.ofNat 0)), (.int .u8 (Int.ofNat 0)), (.int .u8 (Int.ofNat 0)), (.int .u8 (Int.ofNat 0)), (.int .u8 (Int.ofNat 0)), (.int .u8 (Int.ofNat 0)), (.int .u8 (Int.ofNat 0)), (.int .u8 (Int.ofNat 0)), (.int .u8 (Int.ofNat 0)), (.int .u8 (Int.ofNat 0)), (.int .u8 (Int.ofNat 0)), (.int .u8 (Int.ofNat 0)), (.int .u8 (Int.ofNat 0)), (.int .u8 (Int.ofNat 0)), (.int .u8 (Int.ofNat 0)), (.int .u8 (Int.ofNat 0)), (.int .u8 (Int.ofNat 0)), (.int .u8 (Int.ofNat 0)), (.int .u8 (Int.ofNat 0)), (.int .u8 (Int.ofNat 0)), (.int .u8 (Int.ofNat 0)), (.int .u8 (Int.ofNat 0)), (.int .u8 (Int.ofNat 0)), (.int .u8 (Int.ofNat 0)), (.int .u8 (Int.ofNat 0)), (.int .u8 (Int.ofNat 0)), (.int .u8 (Int.ofNat 0)), (.int .u8 (Int.ofNat 0)), (.int .u8 (Int.ofNat 0)), (.int .u8 (Int.ofNat 0)), (.int .u8 (Int.ofNat 0)), (.int .u8 (Int.ofNat 0)), (.int .u8 (Int.ofNat 0)), (.int .u8 (Int.ofNat 0)), (.int .u8 (Int.ofNat 0)), (.int .u8 (Int.ofNat 0)), (.int .u8 (Int.ofNat 0)), (.int .u8 (Int.ofNat 0)), (.int .u8 (Int.ofNat 0)), (.int .u8 (Int.ofNat 0)), (.int .u8 (Int.ofNat 0)), (.int .u8 (Int.ofNat 0)), (.int .u8 (Int.ofNat 0)), (.int .u8 (Int.ofNat 0)), (.int .u8 (Int.ofNat 0)), (.int .u8 (Int.ofNat 0)), (.int .u8 (Int.ofNat 0)), (.int .u8 (Int.ofNat 0)), (.int .u8 (Int.ofNat 0)), (.int .u8 (Int.ofNat 0)), (.int .u8 (Int.ofNat 0)), (.int .u8 (Int.ofNat 0)), (.int .u8 (Int.ofNat 0)), (.int .u8 (Int.ofNat 0)), (.int .u8 (Int.ofNat 0)), (.int .u8 (Int.ofNat 0)), (.int .u8 (Int.ofNat 0)), (.int .u8 (Int.ofNat 0))] [(0, 1), (1, 1), (2, 1), (3, 1), (4, 1), (5, 1), (6, 1), (7, 1), (8, 1), (9, 1), (10, 1), (11, 1), (12, 1), (13, 1), (14, 1), (15, 1), (16, 1), (17, 1), (18, 1), (19, 1), (20, 1), (21, 1), (22, 1), (23, 1), (24, 1), (25, 1), (26, 1), (27, 1), (28, 1), (29, 1), (30, 1), (31, 1), (32, 1), (33, 1), (34, 1), (35, 1), (36, 1), (37, 1), (38, 1), (39, 1), (40, 1), (41, 1), (42, 1), (43, 1), (44, 1), (45, 1), (46, 1), (47, 1), (48, 1), (49, 1), (50, 1), (51, 1), (52, 1), (53, 1), (54, 1), (55, 1), (56, 1), (57, 1), (58, 1), (59, 1), (60, 1), (61, 1), (62, 1), (63, 1)])), [.c (.int .u8 (Int.ofNat 0)), .c (.int .u8 (Int.ofNat 1)), .c (.int .u8 (Int.ofNat 56)), .c (.int .u8 (Int.ofNat 2)), .c (.int .u8 (Int.ofNat 57)), .c (.int .u8 (Int.ofNat 49)), .c (.int .u8 (Int.ofNat 28)), .c (.int .u8 (Int.ofNat 3)), .c (.int .u8 (Int.ofNat 61)), .c (.int .u8 (Int.ofNat 58)), .c (.int .u8 (Int.ofNat 42)), .c (.int .u8 (Int.ofNat 50)), .c (.int .u8 (Int.ofNat 38)), .c (.int .u8 (Int.ofNat 29)), .c (.int .u8 (Int.ofNat 17)), .c (.int .u8 (Int.ofNat 4)), .c (.int .u8 (Int.ofNat 62)), .c (.int .u8 (Int.ofNat 47)), .c (.int .u8 (Int.ofNat 59)), .c (.int .u8 (Int.ofNat 36)), .c (.int .u8 (Int.ofNat 45)), .c (.int .u8 (Int.ofNat 43)), .c (.int .u8 (Int.ofNat 51)), .c (.int .u8 (Int.ofNat 22)), .c (.int .u8 (Int.ofNat 53)), .c (.int .u8 (Int.ofNat 39)), .c (.int .u8 (Int.ofNat 33)), .c (.int .u8 (Int.ofNat 30)), .c (.int .u8 (Int.ofNat 24)), .c (.int .u8 (Int.ofNat 18)), .c (.int .u8 (Int.ofNat 12)), .c (.int .u8 (Int.ofNat 5)), .c (.int .u8 (Int.ofNat 63)), .c (.int .u8 (Int.ofNat 55)), .c (.int .u8 (Int.ofNat 48)), .c (.int .u8 (Int.ofNat 27)), .c (.int .u8 (Int.ofNat 60)), .c (.int .u8 (Int.ofNat 41)), .c (.int .u8 (Int.ofNat 37)), .c (.int .u8 (Int.ofNat 16)), .c (.int .u8 (Int.ofNat 46)), .c (.int .u8 (Int.ofNat 35)), .c (.int .u8 (Int.ofNat 44)), .c (.int .u8 (Int.ofNat 21)), .c (.int .u8 (Int.ofNat 52)), .c (.int .u8 (Int.ofNat 32)), .c (.int .u8 (Int.ofNat 23)), .c (.int .u8 (Int.ofNat 11)), .c (.int .u8 (Int.ofNat 54)), .c (.int .u8 (Int.ofNat 26)), .c (.int .u8 (Int.ofNat 40)), .c (.int .u8 (Int.ofNat 15)), .c (.int .u8 (Int.ofNat 34)), .c (.int .u8 (Int.ofNat 20)), .c (.int .u8 (Int.ofNat 31)), .c (.int .u8 (Int.ofNat 10)), .c (.int .u8 (Int.ofNat 25)), .c (.int .u8 (Int.ofNat 14)), .c (.int .u8 (Int.ofNat 19)), .c (.int .u8 (Int.ofNat 9)), .c (.int .u8 (Int.ofNat 13)), .c (.int .u8 (Int.ofNat 8)), .c (.int .u8 (Int.ofNat 7)), .c (.int .u8 (Int.ofNat 6))], none⟩,
      ⟨none, (.eff (.store 64)), [.c (.pointer (some ⟨0, 0, some 0⟩)), .t 0], none⟩] false), []⟩
theorem c76 : (match Tryd.prog.funcs[76]? with | some fn => compileFn Tryd.prog 1 [] fn | none => none) = some k76 := by kernel_rfl
theorem e76 (tb : Nat → Option DFn) (nv : CallF) (H : Heap) (Q : Value → Heap → Prop) : wFn tb nv k76 [] H Q = (
    wP (.build [(.int .u8 0), (.int .u8 0), (.int .u8 0), (.int .u8 0), (.int .u8 0), (.int .u8 0), (.int .u8 0), (.int .u8 0), (.int .u8 0), (.int .u8 0), (.int .u8 0), (.int .u8 0), (.int .u8 0), (.int .u8 0), (.int .u8 0), (.int .u8 0), (.int .u8 0), (.int .u8 0), (.int .u8 0), (.int .u8 0), (.int .u8 0), (.int .u8 0), (.int .u8 0), (.int .u8 0), (.int .u8 0), (.int .u8 0), (.int .u8 0), (.int .u8 0), (.int .u8 0), (.int .u8 0), (.int .u8 0), (.int .u8 0), (.int .u8 0), (.int .u8 0), (.int .u8 0), (.int .u8 0), (.int .u8 0), (.int .u8 0), (.int .u8 0), (.int .u8 0), (.int .u8 0), (.int .u8 0), (.int .u8 0), (.int .u8 0), (.int .u8 0), (.int .u8 0), (.int .u8 0), (.int .u8 0), (.int .u8 0), (.int .u8 0), (.int .u8 0), (.int .u8 0), (.int .u8 0), (.int .u8 0), (.int .u8 0), (.int .u8 0), (.int .u8 0), (.int .u8 0), (.int .u8 0), (.int .u8 0), (.int .u8 0), (.int .u8 0), (.int .u8 0), (.int .u8 0)] [(0, 1), (1, 1), (2, 1), (3, 1), (4, 1), (5, 1), (6, 1), (7, 1), (8, 1), (9, 1), (10, 1), (11, 1), (12, 1), (13, 1), (14, 1), (15, 1), (16, 1), (17, 1), (18, 1), (19, 1), (20, 1), (21, 1), (22, 1), (23, 1), (24, 1), (25, 1), (26, 1), (27, 1), (28, 1), (29, 1), (30, 1), (31, 1), (32, 1), (33, 1), (34, 1), (35, 1), (36, 1), (37, 1), (38, 1), (39, 1), (40, 1), (41, 1), (42, 1), (43, 1), (44, 1), (45, 1), (46, 1), (47, 1), (48, 1), (49, 1), (50, 1), (51, 1), (52, 1), (53, 1), (54, 1), (55, 1), (56, 1), (57, 1), (58, 1), (59, 1), (60, 1), (61, 1), (62, 1), (63, 1)]) [(.int .u8 0), (.int .u8 1), (.int .u8 56), (.int .u8 2), (.int .u8 57), (.int .u8 49), (.int .u8 28), (.int .u8 3), (.int .u8 61), (.int .u8 58), (.int .u8 42), (.int .u8 50), (.int .u8 38), (.int .u8 29), (.int .u8 17), (.int .u8 4), (.int .u8 62), (.int .u8 47), (.int .u8 59), (.int .u8 36), (.int .u8 45), (.int .u8 43), (.int .u8 51), (.int .u8 22), (.int .u8 53), (.int .u8 39), (.int .u8 33), (.int .u8 30), (.int .u8 24), (.int .u8 18), (.int .u8 12), (.int .u8 5), (.int .u8 63), (.int .u8 55), (.int .u8 48), (.int .u8 27), (.int .u8 60), (.int .u8 41), (.int .u8 37), (.int .u8 16), (.int .u8 46), (.int .u8 35), (.int .u8 44), (.int .u8 21), (.int .u8 52), (.int .u8 32), (.int .u8 23), (.int .u8 11), (.int .u8 54), (.int .u8 26), (.int .u8 40), (.int .u8 15), (.int .u8 34), (.int .u8 20), (.int .u8 31), (.int .u8 10), (.int .u8 25), (.int .u8 14), (.int .u8 19), (.int .u8 9), (.int .u8 13), (.int .u8 8), (.int .u8 7), (.int .u8 6)] fun x0 =>
    wE (.store 64) [(.pointer (some ⟨0, 0, some 0⟩)), x0] H fun x1 H2 =>
    Q (.tuple ⟨[]⟩) H2) := by kernel_rfl

end Go.Proofs.YtedeopeegicnbaaDoor.D
