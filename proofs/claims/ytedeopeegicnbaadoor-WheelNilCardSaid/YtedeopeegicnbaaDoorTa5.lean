/- The compiled functions of the seat, as the machine "D" runs them, and what each comes to (written by a program). No statement of the seat is proved in this text. -/
import Derived.Test.YtedeopeegicnbaaDoorDz
import Derived.Test.YtedeopeegicnbaaDoorProg
set_option maxRecDepth 100000
set_option linter.unusedVariables false
namespace Go.Proofs.YtedeopeegicnbaaDoor.D
open Go
/-- slices.insertionSortCmpFunc[[2]int] -/
def c42_16 : C := .skip
def c42_2 : C := (.keep [0, 1, 2, 3, 8] c42_16)
def c42_15 : C := (.region [
      ⟨(some 15), (.pure .mov), [.t 8], none⟩,
      ⟨(some 16), (.pure (.bin .add)), [.t 15, .c (.int .i64 (Int.ofNat 1))], none⟩,
      ⟨(some 8), (.pure .mov), [.t 16], none⟩] false)
def c42_6 : C := (.keep [0, 1, 2, 3, 8] c42_15)
def c42_14 : C := .skip
def c42_9 : C := (.keep [0, 1, 2, 3, 8, 9] c42_14)
def c42_13 : C := (.region [
      ⟨(some 35), (.pure .mov), [.t 9], none⟩,
      ⟨(some 36), (.pure (.bin .sub)), [.t 35, .c (.int .i64 (Int.ofNat 1))], none⟩,
      ⟨(some 9), (.pure .mov), [.t 36], none⟩] false)
def c42_10 : C := (.seq (.block 3 (.region [
      ⟨(some 37), (.pure .mov), [.t 0], none⟩,
      ⟨(some 38), (.pure .mov), [.t 9], none⟩,
      ⟨(some 39), (.pure .mov), [.t 0], none⟩,
      ⟨(some 40), (.pure .mov), [.t 9], none⟩,
      ⟨(some 41), (.pure (.bin .sub)), [.t 40, .c (.int .i64 (Int.ofNat 1))], none⟩,
      ⟨(some 42), (.pure .mov), [.t 0], none⟩,
      ⟨(some 43), (.pure .mov), [.t 9], none⟩,
      ⟨(some 44), (.pure (.bin .sub)), [.t 43, .c (.int .i64 (Int.ofNat 1))], none⟩,
      ⟨(some 45), (.pure (.iaddS 2)), [.t 42, .t 44], none⟩,
      ⟨(some 46), (.read (.load 2 true) []), [.t 45], none⟩,
      ⟨(some 47), (.pure .mov), [.t 0], none⟩,
      ⟨(some 48), (.pure .mov), [.t 9], none⟩,
      ⟨(some 49), (.pure (.iaddS 2)), [.t 47, .t 48], none⟩,
      ⟨(some 50), (.read (.load 2 true) []), [.t 49], none⟩,
      ⟨(some 51), (.pure (.iaddS 2)), [.t 37, .t 38], none⟩,
      ⟨none, (.eff (.store 2)), [.t 51, .t 46], none⟩,
      ⟨(some 52), (.pure (.iaddS 2)), [.t 39, .t 41], none⟩,
      ⟨none, (.eff (.store 2)), [.t 52, .t 50], none⟩] false)) c42_13)
def c42_12 : C := (.exit 2)
def c42_11 : C := (.cond (.t 34) .skip
    (.keep [0, 1, 2, 3, 8] c42_12))
def c42_8 : C := (.seq (.seq (.seq (.region [
      ⟨(some 18), (.pure .mov), [.t 9], none⟩,
      ⟨(some 19), (.pure .mov), [.t 1], none⟩,
      ⟨(some 20), (.pure (.bin .gtr)), [.t 18, .t 19], none⟩,
      ⟨(some 21), (.pure .mov), [.t 20], none⟩,
      ⟨(some 22), (.pure .mov), [.t 3], (some (21, true))⟩,
      ⟨(some 23), (.pure .mov), [.t 0], (some (21, true))⟩,
      ⟨(some 24), (.pure .mov), [.t 9], (some (21, true))⟩,
      ⟨(some 25), (.pure (.iaddS 2)), [.t 23, .t 24], (some (21, true))⟩,
      ⟨(some 26), (.read (.load 2 true) []), [.t 25], (some (21, true))⟩,
      ⟨(some 27), (.pure .mov), [.t 0], (some (21, true))⟩,
      ⟨(some 28), (.pure .mov), [.t 9], (some (21, true))⟩,
      ⟨(some 29), (.pure (.bin .sub)), [.t 28, .c (.int .i64 (Int.ofNat 1))], (some (21, true))⟩,
      ⟨(some 30), (.pure (.iaddS 2)), [.t 27, .t 29], (some (21, true))⟩,
      ⟨(some 31), (.read (.load 2 true) []), [.t 30], (some (21, true))⟩,
      ⟨(some 32), .callv, [.t 22, .t 26, .t 31], (some (21, true))⟩,
      ⟨(some 33), (.pure (.bin .lss)), [.t 32, .c (.int .i64 (Int.ofNat 0))], (some (21, true))⟩,
      ⟨(some 34), (.pure .pick), [.t 21, .t 33, .c (.bool false)], none⟩] false) c42_11) c42_10) c42_9)
def c42_7 : C := (.block 2 (.loop (some [0, 1, 2, 3, 8, 9]) c42_8))
def c42_3 : C := (.seq (.block 1 (.seq (.region [
      ⟨(some 17), (.pure .mov), [.t 8], none⟩,
      ⟨(some 9), (.pure .mov), [.t 17], none⟩] false) c42_7)) c42_6)
def c42_5 : C := (.exit 0)
def c42_4 : C := (.cond (.t 14) .skip
    (.keep [] c42_5))
def c42_1 : C := (.seq (.seq (.seq (.region [
      ⟨(some 12), (.pure .mov), [.t 8], none⟩,
      ⟨(some 13), (.pure .mov), [.t 2], none⟩,
      ⟨(some 14), (.pure (.bin .lss)), [.t 12, .t 13], none⟩] false) c42_4) c42_3) c42_2)
def c42_0 : C := (.block 0 (.loop (some [0, 1, 2, 3, 8]) c42_1))
def k42 : DFn := ⟨53, (.seq (.region [
      ⟨(some 10), (.pure .mov), [.t 1], none⟩,
      ⟨(some 11), (.pure (.bin .add)), [.t 10, .c (.int .i64 (Int.ofNat 1))], none⟩,
      ⟨(some 8), (.pure .mov), [.t 11], none⟩] false) c42_0), []⟩
theorem c42 : (match Tryd.prog.funcs[42]? with | some fn => compileFn Tryd.prog 1 [none, some [0, 1, 2, 3, 8], none, none, some [], some [0, 1, 2, 3, 8], none, some [0, 1, 2, 3, 8, 9], none, none, some [0, 1, 2, 3, 8], none] fn | none => none) = some k42 := by kernel_rfl
def q42_0 (tb : Nat → Option DFn) (nv : CallF) (Q : Value → Heap → Prop) : Kont := kBlk 0 (kFn [] Q)
def q42_1 (tb : Nat → Option DFn) (nv : CallF) (K : Kont) : Kont := kSeq (fun wf H => wC tb nv c42_2 wf H K) K
def q42_2 (tb : Nat → Option DFn) (nv : CallF) (K : Kont) : Kont := kSeq (fun wf H => wC tb nv c42_6 wf H (q42_1 tb nv K)) (q42_1 tb nv K)
def q42_3 (tb : Nat → Option DFn) (nv : CallF) (K : Kont) : Kont := kBlk 1 (q42_2 tb nv K)
def q42_4 (tb : Nat → Option DFn) (nv : CallF) (K : Kont) : Kont := kBlk 2 (q42_3 tb nv K)
def w42_15 (tb : Nat → Option DFn) (nv : CallF) (t0 t1 t2 t3 t8 : Value) (H : Heap) (K : Kont) : Prop := wC tb nv c42_15 (mkW [(0, t0), (1, t1), (2, t2), (3, t3), (8, t8)]) H (q42_1 tb nv K)
theorem e42 (tb : Nat → Option DFn) (nv : CallF) (a0 a1 a2 a3 : Value) (H : Heap) (Q : Value → Heap → Prop) : wFn tb nv k42 [a0, a1, a2, a3] H Q = (
    wP (.bin .add) [a1, (.int .i64 1)] fun x0 =>
    wLoop tb nv c42_1 [0, 1, 2, 3, 8] (mkW [(0, a0), (1, a1), (2, a2), (3, a3), (8, x0)]) H (q42_0 tb nv Q)) := by kernel_rfl
theorem l42_1 (tb : Nat → Option DFn) (nv : CallF) (t0 t1 t2 t3 t8 : Value) (H : Heap) (K : Kont) : wC tb nv c42_1 (mkW [(0, t0), (1, t1), (2, t2), (3, t3), (8, t8)]) H K = (
    wP (.bin .lss) [t8, t2] fun x1 =>
    asB x1 fun b2 => onB b2 (wLoop tb nv c42_8 [0, 1, 2, 3, 8, 9] (mkW [(0, t0), (1, t1), (2, t2), (3, t3), (8, t8), (9, t8)]) H (q42_4 tb nv K))
    (atK (K (.exit 0) (mkW []) H))) := by kernel_rfl
theorem x42_1_0 (tb : Nat → Option DFn) (nv : CallF) (H : Heap) (Q : Value → Heap → Prop) : (q42_0 tb nv Q) (.exit 0) (mkW []) H = (
    Q (.tuple ⟨[]⟩) H) := by kernel_rfl
theorem l42_8 (tb : Nat → Option DFn) (nv : CallF) (t0 t1 t2 t3 t8 t9 : Value) (H : Heap) (K : Kont) : wC tb nv c42_8 (mkW [(0, t0), (1, t1), (2, t2), (3, t3), (8, t8), (9, t9)]) H K = (
    wP (.bin .gtr) [t9, t1] fun x3 =>
    asB x3 fun b4 => onB b4 (wP (.iaddS 2) [t0, t9] fun x5 =>
    wR (.load 2 true) [x5] H fun x6 =>
    wP (.bin .sub) [t9, (.int .i64 1)] fun x7 =>
    wP (.iaddS 2) [t0, x7] fun x8 =>
    wR (.load 2 true) [x8] H fun x9 =>
    wIns (Ev tb nv) .callv [t3, x6, x9] H fun x10 H11 =>
    wP (.bin .lss) [x10, (.int .i64 0)] fun x12 =>
    asB x12 fun b13 => onB b13 (wP (.bin .sub) [t9, (.int .i64 1)] fun x14 =>
    wP (.bin .sub) [t9, (.int .i64 1)] fun x15 =>
    wP (.iaddS 2) [t0, x15] fun x16 =>
    wR (.load 2 true) [x16] H11 fun x17 =>
    wP (.iaddS 2) [t0, t9] fun x18 =>
    wR (.load 2 true) [x18] H11 fun x19 =>
    wP (.iaddS 2) [t0, t9] fun x20 =>
    wE (.store 2) [x20, x17] H11 fun x21 H22 =>
    wP (.iaddS 2) [t0, x14] fun x23 =>
    wE (.store 2) [x23, x19] H22 fun x24 H25 =>
    wP (.bin .sub) [t9, (.int .i64 1)] fun x26 =>
    atK (K .normal (mkW [(0, t0), (1, t1), (2, t2), (3, t3), (8, t8), (9, x26)]) H25))
    (atK (K (.exit 2) (mkW [(0, t0), (1, t1), (2, t2), (3, t3), (8, t8)]) H11)))
    (atK (K (.exit 2) (mkW [(0, t0), (1, t1), (2, t2), (3, t3), (8, t8)]) H))) := by kernel_rfl
theorem x42_8_0 (tb : Nat → Option DFn) (nv : CallF) (t0 t1 t2 t3 t8 : Value) (H : Heap) (K : Kont) : (q42_4 tb nv K) (.exit 2) (mkW [(0, t0), (1, t1), (2, t2), (3, t3), (8, t8)]) H = (
    atK (w42_15 tb nv t0 t1 t2 t3 t8 H K)) := by kernel_rfl
theorem e42_15 (tb : Nat → Option DFn) (nv : CallF) (t0 t1 t2 t3 t8 : Value) (H : Heap) (K : Kont) : w42_15 tb nv t0 t1 t2 t3 t8 H K = (
    wP (.bin .add) [t8, (.int .i64 1)] fun x27 =>
    atK (K .normal (mkW [(0, t0), (1, t1), (2, t2), (3, t3), (8, x27)]) H)) := by kernel_rfl

/-- slices.heapSortCmpFunc[[2]int] -/
def c43_21 : C := .skip
def c43_15 : C := (.keep [0, 3, 8, 9, 12] c43_21)
def c43_19 : C := (.region [
      ⟨(some 34), (.pure .mov), [.t 12], none⟩,
      ⟨(some 35), (.pure (.bin .sub)), [.t 34, .c (.int .i64 (Int.ofNat 1))], none⟩,
      ⟨(some 12), (.pure .mov), [.t 35], none⟩] false)
def c43_20 : C := (.region [
      ⟨(some 54), (.pure .mov), [.t 0], none⟩,
      ⟨(some 55), (.pure .mov), [.t 9], none⟩,
      ⟨(some 56), (.pure .mov), [.t 12], none⟩,
      ⟨(some 57), (.pure .mov), [.t 8], none⟩,
      ⟨(some 58), (.pure .mov), [.t 3], none⟩,
      ⟨(some 59), (.call 51), [.t 54, .t 55, .t 56, .t 57, .t 58], none⟩] false)
def c43_16 : C := (.seq (.block 3 (.seq (.region [
      ⟨(some 36), (.pure .mov), [.t 0], none⟩,
      ⟨(some 37), (.pure .mov), [.t 8], none⟩,
      ⟨(some 38), (.pure .mov), [.t 0], none⟩,
      ⟨(some 39), (.pure .mov), [.t 8], none⟩,
      ⟨(some 40), (.pure .mov), [.t 12], none⟩,
      ⟨(some 41), (.pure (.bin .add)), [.t 39, .t 40], none⟩,
      ⟨(some 42), (.pure .mov), [.t 0], none⟩,
      ⟨(some 43), (.pure .mov), [.t 8], none⟩,
      ⟨(some 44), (.pure .mov), [.t 12], none⟩,
      ⟨(some 45), (.pure (.bin .add)), [.t 43, .t 44], none⟩,
      ⟨(some 46), (.pure (.iaddS 2)), [.t 42, .t 45], none⟩,
      ⟨(some 47), (.read (.load 2 true) []), [.t 46], none⟩,
      ⟨(some 48), (.pure .mov), [.t 0], none⟩,
      ⟨(some 49), (.pure .mov), [.t 8], none⟩,
      ⟨(some 50), (.pure (.iaddS 2)), [.t 48, .t 49], none⟩,
      ⟨(some 51), (.read (.load 2 true) []), [.t 50], none⟩,
      ⟨(some 52), (.pure (.iaddS 2)), [.t 36, .t 37], none⟩,
      ⟨none, (.eff (.store 2)), [.t 52, .t 47], none⟩,
      ⟨(some 53), (.pure (.iaddS 2)), [.t 38, .t 41], none⟩,
      ⟨none, (.eff (.store 2)), [.t 53, .t 51], none⟩] false) c43_20)) c43_19)
def c43_18 : C := (.exit 2)
def c43_17 : C := (.cond (.t 33) .skip
    (.keep [] c43_18))
def c43_14 : C := (.seq (.seq (.seq (.region [
      ⟨(some 32), (.pure .mov), [.t 12], none⟩,
      ⟨(some 33), (.pure (.bin .geq)), [.t 32, .c (.int .i64 (Int.ofNat 0))], none⟩] false) c43_17) c43_16) c43_15)
def c43_13 : C := (.block 2 (.loop (some [0, 3, 8, 9, 12]) c43_14))
def c43_12 : C := (.seq (.region [
      ⟨(some 30), (.pure .mov), [.t 10], none⟩,
      ⟨(some 31), (.pure (.bin .sub)), [.t 30, .c (.int .i64 (Int.ofNat 1))], none⟩,
      ⟨(some 12), (.pure .mov), [.t 31], none⟩] false) c43_13)
def c43_3 : C := (.keep [0, 3, 8, 9, 10] c43_12)
def c43_11 : C := .skip
def c43_6 : C := (.keep [0, 3, 8, 9, 10, 11] c43_11)
def c43_10 : C := (.region [
      ⟨(some 22), (.pure .mov), [.t 11], none⟩,
      ⟨(some 23), (.pure (.bin .sub)), [.t 22, .c (.int .i64 (Int.ofNat 1))], none⟩,
      ⟨(some 11), (.pure .mov), [.t 23], none⟩] false)
def c43_7 : C := (.seq (.block 1 (.region [
      ⟨(some 24), (.pure .mov), [.t 0], none⟩,
      ⟨(some 25), (.pure .mov), [.t 11], none⟩,
      ⟨(some 26), (.pure .mov), [.t 10], none⟩,
      ⟨(some 27), (.pure .mov), [.t 8], none⟩,
      ⟨(some 28), (.pure .mov), [.t 3], none⟩,
      ⟨(some 29), (.call 51), [.t 24, .t 25, .t 26, .t 27, .t 28], none⟩] false)) c43_10)
def c43_9 : C := (.exit 0)
def c43_8 : C := (.cond (.t 21) .skip
    (.keep [0, 3, 8, 9, 10] c43_9))
def c43_5 : C := (.seq (.seq (.seq (.region [
      ⟨(some 20), (.pure .mov), [.t 11], none⟩,
      ⟨(some 21), (.pure (.bin .geq)), [.t 20, .c (.int .i64 (Int.ofNat 0))], none⟩] false) c43_8) c43_7) c43_6)
def c43_4 : C := (.block 0 (.loop (some [0, 3, 8, 9, 10, 11]) c43_5))
def c43_2 : C := (.seq (.seq (.region [
      ⟨(some 17), (.pure .mov), [.t 10], none⟩,
      ⟨(some 18), (.pure (.bin .sub)), [.t 17, .c (.int .i64 (Int.ofNat 1))], none⟩,
      ⟨(some 19), (.pure (.bin .quo)), [.t 18, .c (.int .i64 (Int.ofNat 2))], none⟩,
      ⟨(some 11), (.pure .mov), [.t 19], none⟩] false) c43_4) c43_3)
def c43_1 : C := (.seq (.region [
      ⟨(some 14), (.pure .mov), [.t 2], none⟩,
      ⟨(some 15), (.pure .mov), [.t 1], none⟩,
      ⟨(some 16), (.pure (.bin .sub)), [.t 14, .t 15], none⟩,
      ⟨(some 10), (.pure .mov), [.t 16], none⟩] false) c43_2)
def c43_0 : C := (.seq (.region [
      ⟨(some 9), (.pure .mov), [.c (.int .i64 (Int.ofNat 0))], none⟩] false) c43_1)
def k43 : DFn := ⟨60, (.seq (.region [
      ⟨(some 13), (.pure .mov), [.t 1], none⟩,
      ⟨(some 8), (.pure .mov), [.t 13], none⟩] false) c43_0), []⟩
theorem c43 : (match Tryd.prog.funcs[43]? with | some fn => compileFn Tryd.prog 1 [none, none, none, some [0, 3, 8, 9, 10], none, some [0, 3, 8, 9, 10, 11], none, none, some [0, 3, 8, 9, 10], none, none, some [0, 3, 8, 9, 12], none, none, some [], none, none] fn | none => none) = some k43 := by kernel_rfl
def q43_0 (tb : Nat → Option DFn) (nv : CallF) (Q : Value → Heap → Prop) : Kont := kSeq (fun wf H => wC tb nv c43_3 wf H (kFn [] Q)) (kFn [] Q)
def q43_1 (tb : Nat → Option DFn) (nv : CallF) (Q : Value → Heap → Prop) : Kont := kBlk 0 (q43_0 tb nv Q)
def q43_2 (tb : Nat → Option DFn) (nv : CallF) (Q : Value → Heap → Prop) : Kont := kBlk 2 (kFn [] Q)
def w43_12 (tb : Nat → Option DFn) (nv : CallF) (t0 t3 t8 t9 t10 : Value) (H : Heap) (Q : Value → Heap → Prop) : Prop := wC tb nv c43_12 (mkW [(0, t0), (3, t3), (8, t8), (9, t9), (10, t10)]) H (kFn [] Q)
theorem e43 (tb : Nat → Option DFn) (nv : CallF) (a0 a1 a2 a3 : Value) (H : Heap) (Q : Value → Heap → Prop) : wFn tb nv k43 [a0, a1, a2, a3] H Q = (
    wP (.bin .sub) [a2, a1] fun x0 =>
    wP (.bin .sub) [x0, (.int .i64 1)] fun x1 =>
    wP (.bin .quo) [x1, (.int .i64 2)] fun x2 =>
    wLoop tb nv c43_5 [0, 3, 8, 9, 10, 11] (mkW [(0, a0), (3, a3), (8, a1), (9, (.int .i64 0)), (10, x0), (11, x2)]) H (q43_1 tb nv Q)) := by kernel_rfl
theorem l43_5 (tb : Nat → Option DFn) (nv : CallF) (t0 t3 t8 t9 t10 t11 : Value) (H : Heap) (K : Kont) : wC tb nv c43_5 (mkW [(0, t0), (3, t3), (8, t8), (9, t9), (10, t10), (11, t11)]) H K = (
    wP (.bin .geq) [t11, (.int .i64 0)] fun x3 =>
    asB x3 fun b4 => onB b4 (Ev tb nv 51 [t0, t11, t10, t8, t3] H fun x5 H6 =>
    wP (.bin .sub) [t11, (.int .i64 1)] fun x7 =>
    atK (K .normal (mkW [(0, t0), (3, t3), (8, t8), (9, t9), (10, t10), (11, x7)]) H6))
    (atK (K (.exit 0) (mkW [(0, t0), (3, t3), (8, t8), (9, t9), (10, t10)]) H))) := by kernel_rfl
theorem x43_5_0 (tb : Nat → Option DFn) (nv : CallF) (t0 t3 t8 t9 t10 : Value) (H : Heap) (Q : Value → Heap → Prop) : (q43_1 tb nv Q) (.exit 0) (mkW [(0, t0), (3, t3), (8, t8), (9, t9), (10, t10)]) H = (
    atK (w43_12 tb nv t0 t3 t8 t9 t10 H Q)) := by kernel_rfl
theorem e43_12 (tb : Nat → Option DFn) (nv : CallF) (t0 t3 t8 t9 t10 : Value) (H : Heap) (Q : Value → Heap → Prop) : w43_12 tb nv t0 t3 t8 t9 t10 H Q = (
    wP (.bin .sub) [t10, (.int .i64 1)] fun x8 =>
    wLoop tb nv c43_14 [0, 3, 8, 9, 12] (mkW [(0, t0), (3, t3), (8, t8), (9, t9), (12, x8)]) H (q43_2 tb nv Q)) := by kernel_rfl
theorem l43_14 (tb : Nat → Option DFn) (nv : CallF) (t0 t3 t8 t9 t12 : Value) (H : Heap) (K : Kont) : wC tb nv c43_14 (mkW [(0, t0), (3, t3), (8, t8), (9, t9), (12, t12)]) H K = (
    wP (.bin .geq) [t12, (.int .i64 0)] fun x9 =>
    asB x9 fun b10 => onB b10 (wP (.bin .add) [t8, t12] fun x11 =>
    wP (.bin .add) [t8, t12] fun x12 =>
    wP (.iaddS 2) [t0, x12] fun x13 =>
    wR (.load 2 true) [x13] H fun x14 =>
    wP (.iaddS 2) [t0, t8] fun x15 =>
    wR (.load 2 true) [x15] H fun x16 =>
    wP (.iaddS 2) [t0, t8] fun x17 =>
    wE (.store 2) [x17, x14] H fun x18 H19 =>
    wP (.iaddS 2) [t0, x11] fun x20 =>
    wE (.store 2) [x20, x16] H19 fun x21 H22 =>
    Ev tb nv 51 [t0, t9, t12, t8, t3] H22 fun x23 H24 =>
    wP (.bin .sub) [t12, (.int .i64 1)] fun x25 =>
    atK (K .normal (mkW [(0, t0), (3, t3), (8, t8), (9, t9), (12, x25)]) H24))
    (atK (K (.exit 2) (mkW []) H))) := by kernel_rfl
theorem x43_14_0 (tb : Nat → Option DFn) (nv : CallF) (H : Heap) (Q : Value → Heap → Prop) : (q43_2 tb nv Q) (.exit 2) (mkW []) H = (
    Q (.tuple ⟨[]⟩) H) := by kernel_rfl

/-- slices.breakPatternsCmpFunc[[2]int] -/
def c44_15 : C := .skip
def c44_6 : C := (.keep [0, 1, 8, 9, 10, 11] c44_15)
def c44_10 : C := (.region [
      ⟨(some 36), (.pure .mov), [.t 11], none⟩,
      ⟨(some 37), (.pure (.bin .add)), [.t 36, .c (.int .i64 (Int.ofNat 1))], none⟩,
      ⟨(some 11), (.pure .mov), [.t 37], none⟩] false)
def c44_14 : C := (.region [
      ⟨(some 49), (.pure .mov), [.t 0], none⟩,
      ⟨(some 50), (.pure .mov), [.t 11], none⟩,
      ⟨(some 51), (.pure .mov), [.t 0], none⟩,
      ⟨(some 52), (.pure .mov), [.t 1], none⟩,
      ⟨(some 53), (.pure .mov), [.t 12], none⟩,
      ⟨(some 54), (.pure (.bin .add)), [.t 52, .t 53], none⟩,
      ⟨(some 55), (.pure .mov), [.t 0], none⟩,
      ⟨(some 56), (.pure .mov), [.t 1], none⟩,
      ⟨(some 57), (.pure .mov), [.t 12], none⟩,
      ⟨(some 58), (.pure (.bin .add)), [.t 56, .t 57], none⟩,
      ⟨(some 59), (.pure (.iaddS 2)), [.t 55, .t 58], none⟩,
      ⟨(some 60), (.read (.load 2 true) []), [.t 59], none⟩,
      ⟨(some 61), (.pure .mov), [.t 0], none⟩,
      ⟨(some 62), (.pure .mov), [.t 11], none⟩,
      ⟨(some 63), (.pure (.iaddS 2)), [.t 61, .t 62], none⟩,
      ⟨(some 64), (.read (.load 2 true) []), [.t 63], none⟩,
      ⟨(some 65), (.pure (.iaddS 2)), [.t 49, .t 50], none⟩,
      ⟨none, (.eff (.store 2)), [.t 65, .t 60], none⟩,
      ⟨(some 66), (.pure (.iaddS 2)), [.t 51, .t 54], none⟩,
      ⟨none, (.eff (.store 2)), [.t 66, .t 64], none⟩] false)
def c44_12 : C := (.keep [0, 1, 8, 9, 10, 11, 12] c44_14)
def c44_13 : C := (.cond (.t 45) (.region [
      ⟨(some 46), (.pure .mov), [.t 12], none⟩,
      ⟨(some 47), (.pure .mov), [.t 8], none⟩,
      ⟨(some 48), (.pure (.bin .sub)), [.t 46, .t 47], none⟩,
      ⟨(some 12), (.pure .mov), [.t 48], none⟩] false)
    .skip)
def c44_11 : C := (.seq (.seq (.region [
      ⟨(some 43), (.pure .mov), [.t 12], none⟩,
      ⟨(some 44), (.pure .mov), [.t 8], none⟩,
      ⟨(some 45), (.pure (.bin .geq)), [.t 43, .t 44], none⟩] false) c44_13) c44_12)
def c44_7 : C := (.seq (.block 1 (.seq (.region [
      ⟨(some 38), (.call 53), [.t 9], none⟩,
      ⟨(some 39), (.pure .mov), [.t 10], none⟩,
      ⟨(some 40), (.pure (.bin .sub)), [.t 39, .c (.int .u64 (Int.ofNat 1))], none⟩,
      ⟨(some 41), (.pure (.bin .and)), [.t 38, .t 40], none⟩,
      ⟨(some 42), (.pure (.conv .i64)), [.t 41], none⟩,
      ⟨(some 12), (.pure .mov), [.t 42], none⟩] false) c44_11)) c44_10)
def c44_9 : C := (.exit 0)
def c44_8 : C := (.cond (.t 35) .skip
    (.keep [] c44_9))
def c44_5 : C := (.seq (.seq (.seq (.region [
      ⟨(some 28), (.pure .mov), [.t 11], none⟩,
      ⟨(some 29), (.pure .mov), [.t 1], none⟩,
      ⟨(some 30), (.pure .mov), [.t 8], none⟩,
      ⟨(some 31), (.pure (.bin .quo)), [.t 30, .c (.int .i64 (Int.ofNat 4))], none⟩,
      ⟨(some 32), (.pure (.bin .mul)), [.t 31, .c (.int .i64 (Int.ofNat 2))], none⟩,
      ⟨(some 33), (.pure (.bin .add)), [.t 29, .t 32], none⟩,
      ⟨(some 34), (.pure (.bin .add)), [.t 33, .c (.int .i64 (Int.ofNat 1))], none⟩,
      ⟨(some 35), (.pure (.bin .leq)), [.t 28, .t 34], none⟩] false) c44_8) c44_7) c44_6)
def c44_4 : C := (.block 0 (.loop (some [0, 1, 8, 9, 10, 11]) c44_5))
def c44_3 : C := (.seq (.region [
      ⟨(some 22), (.pure .mov), [.t 1], none⟩,
      ⟨(some 23), (.pure .mov), [.t 8], none⟩,
      ⟨(some 24), (.pure (.bin .quo)), [.t 23, .c (.int .i64 (Int.ofNat 4))], none⟩,
      ⟨(some 25), (.pure (.bin .mul)), [.t 24, .c (.int .i64 (Int.ofNat 2))], none⟩,
      ⟨(some 26), (.pure (.bin .add)), [.t 22, .t 25], none⟩,
      ⟨(some 27), (.pure (.bin .sub)), [.t 26, .c (.int .i64 (Int.ofNat 1))], none⟩,
      ⟨(some 11), (.pure .mov), [.t 27], none⟩] false) c44_4)
def c44_2 : C := (.seq (.region [
      ⟨(some 20), (.pure .mov), [.t 8], none⟩,
      ⟨(some 21), (.call 52), [.t 20], none⟩,
      ⟨(some 10), (.pure .mov), [.t 21], none⟩] false) c44_3)
def c44_1 : C := (.cond (.t 17) (.seq (.region [
      ⟨(some 18), (.pure .mov), [.t 8], none⟩,
      ⟨(some 19), (.pure (.conv .u64)), [.t 18], none⟩,
      ⟨(some 9), (.alloc (.alloc [(.int .u64 (Int.ofNat 0))])), [], none⟩,
      ⟨none, (.eff (.store 1)), [.t 9, .t 19], none⟩] false) c44_2)
    .skip)
def c44_0 : C := (.seq (.region [
      ⟨(some 16), (.pure .mov), [.t 8], none⟩,
      ⟨(some 17), (.pure (.bin .geq)), [.t 16, .c (.int .i64 (Int.ofNat 8))], none⟩] false) c44_1)
def k44 : DFn := ⟨67, (.seq (.region [
      ⟨(some 13), (.pure .mov), [.t 2], none⟩,
      ⟨(some 14), (.pure .mov), [.t 1], none⟩,
      ⟨(some 15), (.pure (.bin .sub)), [.t 13, .t 14], none⟩,
      ⟨(some 8), (.pure .mov), [.t 15], none⟩] false) c44_0), []⟩
theorem c44 : (match Tryd.prog.funcs[44]? with | some fn => compileFn Tryd.prog 1 [none, none, none, none, none, some [0, 1, 8, 9, 10, 11], none, none, some [], none, none, some [0, 1, 8, 9, 10, 11, 12], none] fn | none => none) = some k44 := by kernel_rfl
def q44_0 (tb : Nat → Option DFn) (nv : CallF) (Q : Value → Heap → Prop) : Kont := kBlk 0 (kFn [] Q)
def q44_1 (tb : Nat → Option DFn) (nv : CallF) (K : Kont) : Kont := kSeq (fun wf H => wC tb nv c44_6 wf H K) K
def q44_2 (tb : Nat → Option DFn) (nv : CallF) (K : Kont) : Kont := kSeq (fun wf H => wC tb nv c44_10 wf H (q44_1 tb nv K)) (q44_1 tb nv K)
def q44_3 (tb : Nat → Option DFn) (nv : CallF) (K : Kont) : Kont := kBlk 1 (q44_2 tb nv K)
def w44_14 (tb : Nat → Option DFn) (nv : CallF) (t0 t1 t8 t9 t10 t11 t12 : Value) (H : Heap) (K : Kont) : Prop := wC tb nv c44_14 (mkW [(0, t0), (1, t1), (8, t8), (9, t9), (10, t10), (11, t11), (12, t12)]) H (q44_3 tb nv K)
theorem e44 (tb : Nat → Option DFn) (nv : CallF) (a0 a1 a2 a3 : Value) (H : Heap) (Q : Value → Heap → Prop) : wFn tb nv k44 [a0, a1, a2, a3] H Q = (
    wP (.bin .sub) [a2, a1] fun x0 =>
    wP (.bin .geq) [x0, (.int .i64 8)] fun x1 =>
    asB x1 fun b2 => onB b2 (wP (.conv .u64) [x0] fun x3 =>
    wA (.alloc [(.int .u64 0)]) [] H fun x4 H5 =>
    wE (.store 1) [x4, x3] H5 fun x6 H7 =>
    Ev tb nv 52 [x0] H7 fun x8 H9 =>
    wP (.bin .quo) [x0, (.int .i64 4)] fun x10 =>
    wP (.bin .mul) [x10, (.int .i64 2)] fun x11 =>
    wP (.bin .add) [a1, x11] fun x12 =>
    wP (.bin .sub) [x12, (.int .i64 1)] fun x13 =>
    wLoop tb nv c44_5 [0, 1, 8, 9, 10, 11] (mkW [(0, a0), (1, a1), (8, x0), (9, x4), (10, x8), (11, x13)]) H9 (q44_0 tb nv Q))
    (Q (.tuple ⟨[]⟩) H)) := by kernel_rfl
theorem l44_5 (tb : Nat → Option DFn) (nv : CallF) (t0 t1 t8 t9 t10 t11 : Value) (H : Heap) (K : Kont) : wC tb nv c44_5 (mkW [(0, t0), (1, t1), (8, t8), (9, t9), (10, t10), (11, t11)]) H K = (
    wP (.bin .quo) [t8, (.int .i64 4)] fun x14 =>
    wP (.bin .mul) [x14, (.int .i64 2)] fun x15 =>
    wP (.bin .add) [t1, x15] fun x16 =>
    wP (.bin .add) [x16, (.int .i64 1)] fun x17 =>
    wP (.bin .leq) [t11, x17] fun x18 =>
    asB x18 fun b19 => onB b19 (Ev tb nv 53 [t9] H fun x20 H21 =>
    wP (.bin .sub) [t10, (.int .u64 1)] fun x22 =>
    wP (.bin .and) [x20, x22] fun x23 =>
    wP (.conv .i64) [x23] fun x24 =>
    wP (.bin .geq) [x24, t8] fun x25 =>
    asB x25 fun b26 => onB b26 (wP (.bin .sub) [x24, t8] fun x27 =>
    atK (w44_14 tb nv t0 t1 t8 t9 t10 t11 x27 H21 K))
    (atK (w44_14 tb nv t0 t1 t8 t9 t10 t11 x24 H21 K)))
    (atK (K (.exit 0) (mkW []) H))) := by kernel_rfl
theorem x44_5_0 (tb : Nat → Option DFn) (nv : CallF) (H : Heap) (Q : Value → Heap → Prop) : (q44_0 tb nv Q) (.exit 0) (mkW []) H = (
    Q (.tuple ⟨[]⟩) H) := by kernel_rfl
theorem e44_14 (tb : Nat → Option DFn) (nv : CallF) (t0 t1 t8 t9 t10 t11 t12 : Value) (H : Heap) (K : Kont) : w44_14 tb nv t0 t1 t8 t9 t10 t11 t12 H K = (
    wP (.bin .add) [t1, t12] fun x28 =>
    wP (.bin .add) [t1, t12] fun x29 =>
    wP (.iaddS 2) [t0, x29] fun x30 =>
    wR (.load 2 true) [x30] H fun x31 =>
    wP (.iaddS 2) [t0, t11] fun x32 =>
    wR (.load 2 true) [x32] H fun x33 =>
    wP (.iaddS 2) [t0, t11] fun x34 =>
    wE (.store 2) [x34, x31] H fun x35 H36 =>
    wP (.iaddS 2) [t0, x28] fun x37 =>
    wE (.store 2) [x37, x33] H36 fun x38 H39 =>
    wP (.bin .add) [t11, (.int .i64 1)] fun x40 =>
    atK (K .normal (mkW [(0, t0), (1, t1), (8, t8), (9, t9), (10, t10), (11, x40)]) H39)) := by kernel_rfl

/-- slices.choosePivotCmpFunc[[2]int] -/
def c45_17 : C := .ret
def c45_16 : C := (.keep [8, 9] c45_17)
def c45_20 : C := .ret
def c45_19 : C := (.keep [8, 9] c45_20)
def c45_22 : C := .ret
def c45_21 : C := (.keep [8, 9] c45_22)
def c45_18 : C := (.cond (.t 60) (.seq (.region [
      ⟨(some 62), (.pure .mov), [.t 13], none⟩,
      ⟨(some 8), (.pure .mov), [.t 62], none⟩,
      ⟨(some 9), (.pure .mov), [.c (.int .i64 (Int.ofNat 2))], none⟩] false) c45_19)
    (.seq (.region [
      ⟨(some 56), (.pure .mov), [.t 13], none⟩,
      ⟨(some 8), (.pure .mov), [.t 56], none⟩,
      ⟨(some 9), (.pure .mov), [.c (.int .i64 (Int.ofNat 0))], none⟩] false) c45_21))
def c45_15 : C := (.cond (.t 57) (.seq (.region [
      ⟨(some 59), (.pure .mov), [.t 13], none⟩,
      ⟨(some 8), (.pure .mov), [.t 59], none⟩,
      ⟨(some 9), (.pure .mov), [.c (.int .i64 (Int.ofNat 1))], none⟩] false) c45_16)
    (.seq (.region [
      ⟨(some 61), (.pure (.bin .eql)), [.t 55, .c (.int .i64 (Int.ofNat 12))], none⟩,
      ⟨(some 60), (.pure .mov), [.t 61], none⟩] false) c45_18))
def c45_14 : C := (.block 0 (.seq (.region [
      ⟨(some 58), (.pure (.bin .eql)), [.t 55, .c (.int .i64 (Int.ofNat 0))], none⟩,
      ⟨(some 57), (.pure .mov), [.t 58], none⟩] false) c45_15))
def c45_13 : C := (.seq (.region [
      ⟨(some 55), (.read (.load 1 false) []), [.t 11], none⟩] false) c45_14)
def c45_6 : C := (.keep [11, 13] c45_13)
def c45_12 : C := (.region [
      ⟨(some 49), (.pure .mov), [.t 0], none⟩,
      ⟨(some 50), (.pure .mov), [.t 12], none⟩,
      ⟨(some 51), (.pure .mov), [.t 13], none⟩,
      ⟨(some 52), (.pure .mov), [.t 14], none⟩,
      ⟨(some 53), (.pure .mov), [.t 3], none⟩,
      ⟨(some 54), (.call 55), [.t 49, .t 50, .t 51, .t 52, .t 11, .t 53], none⟩,
      ⟨(some 13), (.pure .mov), [.t 54], none⟩] false)
def c45_8 : C := (.keep [0, 3, 11, 12, 13, 14] c45_12)
def c45_11 : C := (.region [
      ⟨(some 45), (.pure .mov), [.t 0], none⟩,
      ⟨(some 46), (.pure .mov), [.t 14], none⟩,
      ⟨(some 47), (.pure .mov), [.t 3], none⟩,
      ⟨(some 48), (.call 54), [.t 45, .t 46, .t 11, .t 47], none⟩,
      ⟨(some 14), (.pure .mov), [.t 48], none⟩] false)
def c45_10 : C := (.seq (.region [
      ⟨(some 41), (.pure .mov), [.t 0], none⟩,
      ⟨(some 42), (.pure .mov), [.t 13], none⟩,
      ⟨(some 43), (.pure .mov), [.t 3], none⟩,
      ⟨(some 44), (.call 54), [.t 41, .t 42, .t 11, .t 43], none⟩,
      ⟨(some 13), (.pure .mov), [.t 44], none⟩] false) c45_11)
def c45_9 : C := (.cond (.t 36) (.seq (.region [
      ⟨(some 37), (.pure .mov), [.t 0], none⟩,
      ⟨(some 38), (.pure .mov), [.t 12], none⟩,
      ⟨(some 39), (.pure .mov), [.t 3], none⟩,
      ⟨(some 40), (.call 54), [.t 37, .t 38, .t 11, .t 39], none⟩,
      ⟨(some 12), (.pure .mov), [.t 40], none⟩] false) c45_10)
    .skip)
def c45_7 : C := (.cond (.t 34) (.seq (.seq (.region [
      ⟨(some 35), (.pure .mov), [.t 10], none⟩,
      ⟨(some 36), (.pure (.bin .geq)), [.t 35, .c (.int .i64 (Int.ofNat 50))], none⟩] false) c45_9) c45_8)
    .skip)
def c45_5 : C := (.seq (.seq (.region [
      ⟨(some 33), (.pure .mov), [.t 10], none⟩,
      ⟨(some 34), (.pure (.bin .geq)), [.t 33, .c (.int .i64 (Int.ofNat 8))], none⟩] false) c45_7) c45_6)
def c45_4 : C := (.seq (.region [
      ⟨(some 28), (.pure .mov), [.t 1], none⟩,
      ⟨(some 29), (.pure .mov), [.t 10], none⟩,
      ⟨(some 30), (.pure (.bin .quo)), [.t 29, .c (.int .i64 (Int.ofNat 4))], none⟩,
      ⟨(some 31), (.pure (.bin .mul)), [.t 30, .c (.int .i64 (Int.ofNat 3))], none⟩,
      ⟨(some 32), (.pure (.bin .add)), [.t 28, .t 31], none⟩,
      ⟨(some 14), (.pure .mov), [.t 32], none⟩] false) c45_5)
def c45_3 : C := (.seq (.region [
      ⟨(some 23), (.pure .mov), [.t 1], none⟩,
      ⟨(some 24), (.pure .mov), [.t 10], none⟩,
      ⟨(some 25), (.pure (.bin .quo)), [.t 24, .c (.int .i64 (Int.ofNat 4))], none⟩,
      ⟨(some 26), (.pure (.bin .mul)), [.t 25, .c (.int .i64 (Int.ofNat 2))], none⟩,
      ⟨(some 27), (.pure (.bin .add)), [.t 23, .t 26], none⟩,
      ⟨(some 13), (.pure .mov), [.t 27], none⟩] false) c45_4)
def c45_2 : C := (.seq (.region [
      ⟨(some 18), (.pure .mov), [.t 1], none⟩,
      ⟨(some 19), (.pure .mov), [.t 10], none⟩,
      ⟨(some 20), (.pure (.bin .quo)), [.t 19, .c (.int .i64 (Int.ofNat 4))], none⟩,
      ⟨(some 21), (.pure (.bin .mul)), [.t 20, .c (.int .i64 (Int.ofNat 1))], none⟩,
      ⟨(some 22), (.pure (.bin .add)), [.t 18, .t 21], none⟩,
      ⟨(some 12), (.pure .mov), [.t 22], none⟩] false) c45_3)
def c45_1 : C := (.seq (.region [
      ⟨(some 11), (.alloc (.alloc [(.int .i64 (Int.ofNat 0))])), [], none⟩] false) c45_2)
def c45_0 : C := (.seq (.region [
      ⟨(some 15), (.pure .mov), [.t 2], none⟩,
      ⟨(some 16), (.pure .mov), [.t 1], none⟩,
      ⟨(some 17), (.pure (.bin .sub)), [.t 15, .t 16], none⟩,
      ⟨(some 10), (.pure .mov), [.t 17], none⟩] false) c45_1)
def k45 : DFn := ⟨63, (.seq (.region [
      ⟨(some 8), (.pure .mov), [.c (.int .i64 (Int.ofNat 0))], none⟩,
      ⟨(some 9), (.pure .mov), [.c (.int .i64 (Int.ofNat 0))], none⟩] false) c45_0), [.tmp 8, .tmp 9]⟩
theorem c45 : (match Tryd.prog.funcs[45]? with | some fn => compileFn Tryd.prog 1 [none, none, none, none, none, none, some [11, 13], none, some [0, 3, 11, 12, 13, 14], none, none, none, none, none, none, some [8, 9], none, none, some [8, 9], none, some [8, 9]] fn | none => none) = some k45 := by kernel_rfl
def q45_0 (tb : Nat → Option DFn) (nv : CallF) (Q : Value → Heap → Prop) : Kont := kSeq (fun wf H => wC tb nv c45_6 wf H (kFn [.tmp 8, .tmp 9] Q)) (kFn [.tmp 8, .tmp 9] Q)
def w45_12 (tb : Nat → Option DFn) (nv : CallF) (t0 t3 t11 t12 t13 t14 : Value) (H : Heap) (Q : Value → Heap → Prop) : Prop := wC tb nv c45_12 (mkW [(0, t0), (3, t3), (11, t11), (12, t12), (13, t13), (14, t14)]) H (q45_0 tb nv Q)
def w45_13 (tb : Nat → Option DFn) (nv : CallF) (t11 t13 : Value) (H : Heap) (Q : Value → Heap → Prop) : Prop := wC tb nv c45_13 (mkW [(11, t11), (13, t13)]) H (kFn [.tmp 8, .tmp 9] Q)
theorem e45 (tb : Nat → Option DFn) (nv : CallF) (a0 a1 a2 a3 : Value) (H : Heap) (Q : Value → Heap → Prop) : wFn tb nv k45 [a0, a1, a2, a3] H Q = (
    wP (.bin .sub) [a2, a1] fun x0 =>
    wA (.alloc [(.int .i64 0)]) [] H fun x1 H2 =>
    wP (.bin .quo) [x0, (.int .i64 4)] fun x3 =>
    wP (.bin .mul) [x3, (.int .i64 1)] fun x4 =>
    wP (.bin .add) [a1, x4] fun x5 =>
    wP (.bin .quo) [x0, (.int .i64 4)] fun x6 =>
    wP (.bin .mul) [x6, (.int .i64 2)] fun x7 =>
    wP (.bin .add) [a1, x7] fun x8 =>
    wP (.bin .quo) [x0, (.int .i64 4)] fun x9 =>
    wP (.bin .mul) [x9, (.int .i64 3)] fun x10 =>
    wP (.bin .add) [a1, x10] fun x11 =>
    wP (.bin .geq) [x0, (.int .i64 8)] fun x12 =>
    asB x12 fun b13 => onB b13 (wP (.bin .geq) [x0, (.int .i64 50)] fun x14 =>
    asB x14 fun b15 => onB b15 (Ev tb nv 54 [a0, x5, x1, a3] H2 fun x16 H17 =>
    Ev tb nv 54 [a0, x8, x1, a3] H17 fun x18 H19 =>
    Ev tb nv 54 [a0, x11, x1, a3] H19 fun x20 H21 =>
    atK (w45_12 tb nv a0 a3 x1 x16 x18 x20 H21 Q))
    (atK (w45_12 tb nv a0 a3 x1 x5 x8 x11 H2 Q)))
    (atK (w45_13 tb nv x1 x8 H2 Q))) := by kernel_rfl
theorem e45_12 (tb : Nat → Option DFn) (nv : CallF) (t0 t3 t11 t12 t13 t14 : Value) (H : Heap) (Q : Value → Heap → Prop) : w45_12 tb nv t0 t3 t11 t12 t13 t14 H Q = (
    Ev tb nv 55 [t0, t12, t13, t14, t11, t3] H fun x22 H23 =>
    atK (w45_13 tb nv t11 x22 H23 Q)) := by kernel_rfl
theorem e45_13 (tb : Nat → Option DFn) (nv : CallF) (t11 t13 : Value) (H : Heap) (Q : Value → Heap → Prop) : w45_13 tb nv t11 t13 H Q = (
    wR (.load 1 false) [t11] H fun x24 =>
    wP (.bin .eql) [x24, (.int .i64 0)] fun x25 =>
    asB x25 fun b26 => onB b26 (atK (Q (.tuple ⟨[t13, (.int .i64 1)]⟩) H))
    (wP (.bin .eql) [x24, (.int .i64 12)] fun x27 =>
    asB x27 fun b28 => onB b28 (atK (Q (.tuple ⟨[t13, (.int .i64 2)]⟩) H))
    (atK (Q (.tuple ⟨[t13, (.int .i64 0)]⟩) H)))) := by kernel_rfl

/-- slices.reverseRangeCmpFunc[[2]int] -/
def c46_9 : C := .skip
def c46_3 : C := (.keep [0, 8, 9] c46_9)
def c46_8 : C := (.region [
      ⟨(some 32), (.pure .mov), [.t 9], none⟩,
      ⟨(some 33), (.pure (.bin .sub)), [.t 32, .c (.int .i64 (Int.ofNat 1))], none⟩,
      ⟨(some 9), (.pure .mov), [.t 33], none⟩] false)
def c46_7 : C := (.seq (.region [
      ⟨(some 30), (.pure .mov), [.t 8], none⟩,
      ⟨(some 31), (.pure (.bin .add)), [.t 30, .c (.int .i64 (Int.ofNat 1))], none⟩,
      ⟨(some 8), (.pure .mov), [.t 31], none⟩] false) c46_8)
def c46_4 : C := (.block 1 (.seq (.region [
      ⟨(some 16), (.pure .mov), [.t 0], none⟩,
      ⟨(some 17), (.pure .mov), [.t 8], none⟩,
      ⟨(some 18), (.pure .mov), [.t 0], none⟩,
      ⟨(some 19), (.pure .mov), [.t 9], none⟩,
      ⟨(some 20), (.pure .mov), [.t 0], none⟩,
      ⟨(some 21), (.pure .mov), [.t 9], none⟩,
      ⟨(some 22), (.pure (.iaddS 2)), [.t 20, .t 21], none⟩,
      ⟨(some 23), (.read (.load 2 true) []), [.t 22], none⟩,
      ⟨(some 24), (.pure .mov), [.t 0], none⟩,
      ⟨(some 25), (.pure .mov), [.t 8], none⟩,
      ⟨(some 26), (.pure (.iaddS 2)), [.t 24, .t 25], none⟩,
      ⟨(some 27), (.read (.load 2 true) []), [.t 26], none⟩,
      ⟨(some 28), (.pure (.iaddS 2)), [.t 16, .t 17], none⟩,
      ⟨none, (.eff (.store 2)), [.t 28, .t 23], none⟩,
      ⟨(some 29), (.pure (.iaddS 2)), [.t 18, .t 19], none⟩,
      ⟨none, (.eff (.store 2)), [.t 29, .t 27], none⟩] false) c46_7))
def c46_6 : C := (.exit 0)
def c46_5 : C := (.cond (.t 15) .skip
    (.keep [] c46_6))
def c46_2 : C := (.seq (.seq (.seq (.region [
      ⟨(some 13), (.pure .mov), [.t 8], none⟩,
      ⟨(some 14), (.pure .mov), [.t 9], none⟩,
      ⟨(some 15), (.pure (.bin .lss)), [.t 13, .t 14], none⟩] false) c46_5) c46_4) c46_3)
def c46_1 : C := (.block 0 (.loop (some [0, 8, 9]) c46_2))
def c46_0 : C := (.seq (.region [
      ⟨(some 11), (.pure .mov), [.t 2], none⟩,
      ⟨(some 12), (.pure (.bin .sub)), [.t 11, .c (.int .i64 (Int.ofNat 1))], none⟩,
      ⟨(some 9), (.pure .mov), [.t 12], none⟩] false) c46_1)
def k46 : DFn := ⟨34, (.seq (.region [
      ⟨(some 10), (.pure .mov), [.t 1], none⟩,
      ⟨(some 8), (.pure .mov), [.t 10], none⟩] false) c46_0), []⟩
theorem c46 : (match Tryd.prog.funcs[46]? with | some fn => compileFn Tryd.prog 1 [none, none, some [0, 8, 9], none, none, some [], none, none] fn | none => none) = some k46 := by kernel_rfl
def q46_0 (tb : Nat → Option DFn) (nv : CallF) (Q : Value → Heap → Prop) : Kont := kBlk 0 (kFn [] Q)
theorem e46 (tb : Nat → Option DFn) (nv : CallF) (a0 a1 a2 a3 : Value) (H : Heap) (Q : Value → Heap → Prop) : wFn tb nv k46 [a0, a1, a2, a3] H Q = (
    wP (.bin .sub) [a2, (.int .i64 1)] fun x0 =>
    wLoop tb nv c46_2 [0, 8, 9] (mkW [(0, a0), (8, a1), (9, x0)]) H (q46_0 tb nv Q)) := by kernel_rfl
theorem l46_2 (tb : Nat → Option DFn) (nv : CallF) (t0 t8 t9 : Value) (H : Heap) (K : Kont) : wC tb nv c46_2 (mkW [(0, t0), (8, t8), (9, t9)]) H K = (
    wP (.bin .lss) [t8, t9] fun x1 =>
    asB x1 fun b2 => onB b2 (wP (.iaddS 2) [t0, t9] fun x3 =>
    wR (.load 2 true) [x3] H fun x4 =>
    wP (.iaddS 2) [t0, t8] fun x5 =>
    wR (.load 2 true) [x5] H fun x6 =>
    wP (.iaddS 2) [t0, t8] fun x7 =>
    wE (.store 2) [x7, x4] H fun x8 H9 =>
    wP (.iaddS 2) [t0, t9] fun x10 =>
    wE (.store 2) [x10, x6] H9 fun x11 H12 =>
    wP (.bin .add) [t8, (.int .i64 1)] fun x13 =>
    wP (.bin .sub) [t9, (.int .i64 1)] fun x14 =>
    atK (K .normal (mkW [(0, t0), (8, x13), (9, x14)]) H12))
    (atK (K (.exit 0) (mkW []) H))) := by kernel_rfl
theorem x46_2_0 (tb : Nat → Option DFn) (nv : CallF) (H : Heap) (Q : Value → Heap → Prop) : (q46_0 tb nv Q) (.exit 0) (mkW []) H = (
    Q (.tuple ⟨[]⟩) H) := by kernel_rfl

/-- slices.partialInsertionSortCmpFunc[[2]int] -/
def c47_57 : C := .ret
def c47_56 : C := (.keep [8] c47_57)
def c47_55 : C := (.seq (.region [
      ⟨(some 8), (.pure .mov), [.c (.bool false)], none⟩] false) c47_56)
def c47_2 : C := (.keep [] c47_55)
def c47_54 : C := .skip
def c47_5 : C := (.keep [0, 1, 2, 3, 9, 10] c47_54)
def c47_53 : C := (.region [
      ⟨(some 17), (.pure .mov), [.t 10], none⟩,
      ⟨(some 18), (.pure (.bin .add)), [.t 17, .c (.int .i64 (Int.ofNat 1))], none⟩,
      ⟨(some 10), (.pure .mov), [.t 18], none⟩] false)
def c47_9 : C := (.keep [0, 1, 2, 3, 9, 10] c47_53)
def c47_52 : C := .skip
def c47_44 : C := (.keep [0, 1, 2, 3, 9, 10, 12] c47_52)
def c47_48 : C := (.region [
      ⟨(some 110), (.pure .mov), [.t 12], none⟩,
      ⟨(some 111), (.pure (.bin .add)), [.t 110, .c (.int .i64 (Int.ofNat 1))], none⟩,
      ⟨(some 12), (.pure .mov), [.t 111], none⟩] false)
def c47_49 : C := (.region [
      ⟨(some 125), (.pure .mov), [.t 0], none⟩,
      ⟨(some 126), (.pure .mov), [.t 12], none⟩,
      ⟨(some 127), (.pure .mov), [.t 0], none⟩,
      ⟨(some 128), (.pure .mov), [.t 12], none⟩,
      ⟨(some 129), (.pure (.bin .sub)), [.t 128, .c (.int .i64 (Int.ofNat 1))], none⟩,
      ⟨(some 130), (.pure .mov), [.t 0], none⟩,
      ⟨(some 131), (.pure .mov), [.t 12], none⟩,
      ⟨(some 132), (.pure (.bin .sub)), [.t 131, .c (.int .i64 (Int.ofNat 1))], none⟩,
      ⟨(some 133), (.pure (.iaddS 2)), [.t 130, .t 132], none⟩,
      ⟨(some 134), (.read (.load 2 true) []), [.t 133], none⟩,
      ⟨(some 135), (.pure .mov), [.t 0], none⟩,
      ⟨(some 136), (.pure .mov), [.t 12], none⟩,
      ⟨(some 137), (.pure (.iaddS 2)), [.t 135, .t 136], none⟩,
      ⟨(some 138), (.read (.load 2 true) []), [.t 137], none⟩,
      ⟨(some 139), (.pure (.iaddS 2)), [.t 125, .t 126], none⟩,
      ⟨none, (.eff (.store 2)), [.t 139, .t 134], none⟩,
      ⟨(some 140), (.pure (.iaddS 2)), [.t 127, .t 129], none⟩,
      ⟨none, (.eff (.store 2)), [.t 140, .t 138], none⟩] false)
def c47_51 : C := (.exit 6)
def c47_50 : C := (.cond (.t 124) (.keep [0, 1, 2, 3, 9, 10] c47_51)
    .skip)
def c47_45 : C := (.seq (.block 7 (.seq (.seq (.region [
      ⟨(some 112), (.pure .mov), [.t 3], none⟩,
      ⟨(some 113), (.pure .mov), [.t 0], none⟩,
      ⟨(some 114), (.pure .mov), [.t 12], none⟩,
      ⟨(some 115), (.pure (.iaddS 2)), [.t 113, .t 114], none⟩,
      ⟨(some 116), (.read (.load 2 true) []), [.t 115], none⟩,
      ⟨(some 117), (.pure .mov), [.t 0], none⟩,
      ⟨(some 118), (.pure .mov), [.t 12], none⟩,
      ⟨(some 119), (.pure (.bin .sub)), [.t 118, .c (.int .i64 (Int.ofNat 1))], none⟩,
      ⟨(some 120), (.pure (.iaddS 2)), [.t 117, .t 119], none⟩,
      ⟨(some 121), (.read (.load 2 true) []), [.t 120], none⟩,
      ⟨(some 122), .callv, [.t 112, .t 116, .t 121], none⟩,
      ⟨(some 123), (.pure (.bin .lss)), [.t 122, .c (.int .i64 (Int.ofNat 0))], none⟩,
      ⟨(some 124), (.pure (.un .not)), [.t 123], none⟩] false) c47_50) c47_49)) c47_48)
def c47_47 : C := (.exit 6)
def c47_46 : C := (.cond (.t 109) .skip
    (.keep [0, 1, 2, 3, 9, 10] c47_47))
def c47_43 : C := (.seq (.seq (.seq (.region [
      ⟨(some 107), (.pure .mov), [.t 12], none⟩,
      ⟨(some 108), (.pure .mov), [.t 2], none⟩,
      ⟨(some 109), (.pure (.bin .lss)), [.t 107, .t 108], none⟩] false) c47_46) c47_45) c47_44)
def c47_42 : C := (.block 6 (.loop (some [0, 1, 2, 3, 9, 10, 12]) c47_43))
def c47_41 : C := (.cond (.t 104) (.seq (.region [
      ⟨(some 105), (.pure .mov), [.t 9], none⟩,
      ⟨(some 106), (.pure (.bin .add)), [.t 105, .c (.int .i64 (Int.ofNat 1))], none⟩,
      ⟨(some 12), (.pure .mov), [.t 106], none⟩] false) c47_42)
    .skip)
def c47_40 : C := (.seq (.region [
      ⟨(some 101), (.pure .mov), [.t 2], none⟩,
      ⟨(some 102), (.pure .mov), [.t 9], none⟩,
      ⟨(some 103), (.pure (.bin .sub)), [.t 101, .t 102], none⟩,
      ⟨(some 104), (.pure (.bin .geq)), [.t 103, .c (.int .i64 (Int.ofNat 2))], none⟩] false) c47_41)
def c47_27 : C := (.keep [0, 1, 2, 3, 9, 10] c47_40)
def c47_39 : C := .skip
def c47_31 : C := (.keep [0, 1, 2, 3, 9, 10, 11] c47_39)
def c47_35 : C := (.region [
      ⟨(some 70), (.pure .mov), [.t 11], none⟩,
      ⟨(some 71), (.pure (.bin .sub)), [.t 70, .c (.int .i64 (Int.ofNat 1))], none⟩,
      ⟨(some 11), (.pure .mov), [.t 71], none⟩] false)
def c47_36 : C := (.region [
      ⟨(some 85), (.pure .mov), [.t 0], none⟩,
      ⟨(some 86), (.pure .mov), [.t 11], none⟩,
      ⟨(some 87), (.pure .mov), [.t 0], none⟩,
      ⟨(some 88), (.pure .mov), [.t 11], none⟩,
      ⟨(some 89), (.pure (.bin .sub)), [.t 88, .c (.int .i64 (Int.ofNat 1))], none⟩,
      ⟨(some 90), (.pure .mov), [.t 0], none⟩,
      ⟨(some 91), (.pure .mov), [.t 11], none⟩,
      ⟨(some 92), (.pure (.bin .sub)), [.t 91, .c (.int .i64 (Int.ofNat 1))], none⟩,
      ⟨(some 93), (.pure (.iaddS 2)), [.t 90, .t 92], none⟩,
      ⟨(some 94), (.read (.load 2 true) []), [.t 93], none⟩,
      ⟨(some 95), (.pure .mov), [.t 0], none⟩,
      ⟨(some 96), (.pure .mov), [.t 11], none⟩,
      ⟨(some 97), (.pure (.iaddS 2)), [.t 95, .t 96], none⟩,
      ⟨(some 98), (.read (.load 2 true) []), [.t 97], none⟩,
      ⟨(some 99), (.pure (.iaddS 2)), [.t 85, .t 86], none⟩,
      ⟨none, (.eff (.store 2)), [.t 99, .t 94], none⟩,
      ⟨(some 100), (.pure (.iaddS 2)), [.t 87, .t 89], none⟩,
      ⟨none, (.eff (.store 2)), [.t 100, .t 98], none⟩] false)
def c47_38 : C := (.exit 4)
def c47_37 : C := (.cond (.t 84) (.keep [0, 1, 2, 3, 9, 10] c47_38)
    .skip)
def c47_32 : C := (.seq (.block 5 (.seq (.seq (.region [
      ⟨(some 72), (.pure .mov), [.t 3], none⟩,
      ⟨(some 73), (.pure .mov), [.t 0], none⟩,
      ⟨(some 74), (.pure .mov), [.t 11], none⟩,
      ⟨(some 75), (.pure (.iaddS 2)), [.t 73, .t 74], none⟩,
      ⟨(some 76), (.read (.load 2 true) []), [.t 75], none⟩,
      ⟨(some 77), (.pure .mov), [.t 0], none⟩,
      ⟨(some 78), (.pure .mov), [.t 11], none⟩,
      ⟨(some 79), (.pure (.bin .sub)), [.t 78, .c (.int .i64 (Int.ofNat 1))], none⟩,
      ⟨(some 80), (.pure (.iaddS 2)), [.t 77, .t 79], none⟩,
      ⟨(some 81), (.read (.load 2 true) []), [.t 80], none⟩,
      ⟨(some 82), .callv, [.t 72, .t 76, .t 81], none⟩,
      ⟨(some 83), (.pure (.bin .lss)), [.t 82, .c (.int .i64 (Int.ofNat 0))], none⟩,
      ⟨(some 84), (.pure (.un .not)), [.t 83], none⟩] false) c47_37) c47_36)) c47_35)
def c47_34 : C := (.exit 4)
def c47_33 : C := (.cond (.t 69) .skip
    (.keep [0, 1, 2, 3, 9, 10] c47_34))
def c47_30 : C := (.seq (.seq (.seq (.region [
      ⟨(some 68), (.pure .mov), [.t 11], none⟩,
      ⟨(some 69), (.pure (.bin .geq)), [.t 68, .c (.int .i64 (Int.ofNat 1))], none⟩] false) c47_33) c47_32) c47_31)
def c47_29 : C := (.block 4 (.loop (some [0, 1, 2, 3, 9, 10, 11]) c47_30))
def c47_28 : C := (.cond (.t 65) (.seq (.region [
      ⟨(some 66), (.pure .mov), [.t 9], none⟩,
      ⟨(some 67), (.pure (.bin .sub)), [.t 66, .c (.int .i64 (Int.ofNat 1))], none⟩,
      ⟨(some 11), (.pure .mov), [.t 67], none⟩] false) c47_29)
    .skip)
def c47_26 : C := (.seq (.seq (.region [
      ⟨(some 62), (.pure .mov), [.t 9], none⟩,
      ⟨(some 63), (.pure .mov), [.t 1], none⟩,
      ⟨(some 64), (.pure (.bin .sub)), [.t 62, .t 63], none⟩,
      ⟨(some 65), (.pure (.bin .geq)), [.t 64, .c (.int .i64 (Int.ofNat 2))], none⟩] false) c47_28) c47_27)
def c47_22 : C := (.seq (.region [
      ⟨(some 46), (.pure .mov), [.t 0], none⟩,
      ⟨(some 47), (.pure .mov), [.t 9], none⟩,
      ⟨(some 48), (.pure .mov), [.t 0], none⟩,
      ⟨(some 49), (.pure .mov), [.t 9], none⟩,
      ⟨(some 50), (.pure (.bin .sub)), [.t 49, .c (.int .i64 (Int.ofNat 1))], none⟩,
      ⟨(some 51), (.pure .mov), [.t 0], none⟩,
      ⟨(some 52), (.pure .mov), [.t 9], none⟩,
      ⟨(some 53), (.pure (.bin .sub)), [.t 52, .c (.int .i64 (Int.ofNat 1))], none⟩,
      ⟨(some 54), (.pure (.iaddS 2)), [.t 51, .t 53], none⟩,
      ⟨(some 55), (.read (.load 2 true) []), [.t 54], none⟩,
      ⟨(some 56), (.pure .mov), [.t 0], none⟩,
      ⟨(some 57), (.pure .mov), [.t 9], none⟩,
      ⟨(some 58), (.pure (.iaddS 2)), [.t 56, .t 57], none⟩,
      ⟨(some 59), (.read (.load 2 true) []), [.t 58], none⟩,
      ⟨(some 60), (.pure (.iaddS 2)), [.t 46, .t 47], none⟩,
      ⟨none, (.eff (.store 2)), [.t 60, .t 55], none⟩,
      ⟨(some 61), (.pure (.iaddS 2)), [.t 48, .t 50], none⟩,
      ⟨none, (.eff (.store 2)), [.t 61, .t 59], none⟩] false) c47_26)
def c47_25 : C := .ret
def c47_24 : C := (.keep [8] c47_25)
def c47_23 : C := (.cond (.t 45) (.seq (.region [
      ⟨(some 8), (.pure .mov), [.c (.bool false)], none⟩] false) c47_24)
    .skip)
def c47_18 : C := (.seq (.seq (.region [
      ⟨(some 42), (.pure .mov), [.t 2], none⟩,
      ⟨(some 43), (.pure .mov), [.t 1], none⟩,
      ⟨(some 44), (.pure (.bin .sub)), [.t 42, .t 43], none⟩,
      ⟨(some 45), (.pure (.bin .lss)), [.t 44, .c (.int .i64 (Int.ofNat 50))], none⟩] false) c47_23) c47_22)
def c47_21 : C := .ret
def c47_20 : C := (.keep [8] c47_21)
def c47_19 : C := (.cond (.t 41) (.seq (.region [
      ⟨(some 8), (.pure .mov), [.c (.bool true)], none⟩] false) c47_20)
    .skip)
def c47_17 : C := (.seq (.seq (.region [
      ⟨(some 39), (.pure .mov), [.t 9], none⟩,
      ⟨(some 40), (.pure .mov), [.t 2], none⟩,
      ⟨(some 41), (.pure (.bin .eql)), [.t 39, .t 40], none⟩] false) c47_19) c47_18)
def c47_10 : C := (.keep [0, 1, 2, 3, 9, 10] c47_17)
def c47_16 : C := .skip
def c47_12 : C := (.keep [0, 1, 2, 3, 9, 10] c47_16)
def c47_13 : C := (.block 3 (.region [
      ⟨(some 37), (.pure .mov), [.t 9], none⟩,
      ⟨(some 38), (.pure (.bin .add)), [.t 37, .c (.int .i64 (Int.ofNat 1))], none⟩,
      ⟨(some 9), (.pure .mov), [.t 38], none⟩] false))
def c47_15 : C := (.exit 2)
def c47_14 : C := (.cond (.t 36) .skip
    (.keep [0, 1, 2, 3, 9, 10] c47_15))
def c47_11 : C := (.seq (.seq (.seq (.region [
      ⟨(some 19), (.pure .mov), [.t 9], none⟩,
      ⟨(some 20), (.pure .mov), [.t 2], none⟩,
      ⟨(some 21), (.pure (.bin .lss)), [.t 19, .t 20], none⟩,
      ⟨(some 22), (.pure .mov), [.t 21], none⟩,
      ⟨(some 23), (.pure .mov), [.t 3], (some (22, true))⟩,
      ⟨(some 24), (.pure .mov), [.t 0], (some (22, true))⟩,
      ⟨(some 25), (.pure .mov), [.t 9], (some (22, true))⟩,
      ⟨(some 26), (.pure (.iaddS 2)), [.t 24, .t 25], (some (22, true))⟩,
      ⟨(some 27), (.read (.load 2 true) []), [.t 26], (some (22, true))⟩,
      ⟨(some 28), (.pure .mov), [.t 0], (some (22, true))⟩,
      ⟨(some 29), (.pure .mov), [.t 9], (some (22, true))⟩,
      ⟨(some 30), (.pure (.bin .sub)), [.t 29, .c (.int .i64 (Int.ofNat 1))], (some (22, true))⟩,
      ⟨(some 31), (.pure (.iaddS 2)), [.t 28, .t 30], (some (22, true))⟩,
      ⟨(some 32), (.read (.load 2 true) []), [.t 31], (some (22, true))⟩,
      ⟨(some 33), .callv, [.t 23, .t 27, .t 32], (some (22, true))⟩,
      ⟨(some 34), (.pure (.bin .lss)), [.t 33, .c (.int .i64 (Int.ofNat 0))], (some (22, true))⟩,
      ⟨(some 35), (.pure (.un .not)), [.t 34], (some (22, true))⟩,
      ⟨(some 36), (.pure .pick), [.t 22, .t 35, .c (.bool false)], none⟩] false) c47_14) c47_13) c47_12)
def c47_6 : C := (.seq (.block 1 (.seq (.block 2 (.loop (some [0, 1, 2, 3, 9, 10]) c47_11)) c47_10)) c47_9)
def c47_8 : C := (.exit 0)
def c47_7 : C := (.cond (.t 16) .skip
    (.keep [] c47_8))
def c47_4 : C := (.seq (.seq (.seq (.region [
      ⟨(some 15), (.pure .mov), [.t 10], none⟩,
      ⟨(some 16), (.pure (.bin .lss)), [.t 15, .c (.int .i64 (Int.ofNat 5))], none⟩] false) c47_7) c47_6) c47_5)
def c47_3 : C := (.block 0 (.loop (some [0, 1, 2, 3, 9, 10]) c47_4))
def c47_1 : C := (.seq (.seq (.region [
      ⟨(some 10), (.pure .mov), [.c (.int .i64 (Int.ofNat 0))], none⟩] false) c47_3) c47_2)
def c47_0 : C := (.seq (.region [
      ⟨(some 13), (.pure .mov), [.t 1], none⟩,
      ⟨(some 14), (.pure (.bin .add)), [.t 13, .c (.int .i64 (Int.ofNat 1))], none⟩,
      ⟨(some 9), (.pure .mov), [.t 14], none⟩] false) c47_1)
def k47 : DFn := ⟨141, (.seq (.region [
      ⟨(some 8), (.pure .mov), [.c (.bool false)], none⟩] false) c47_0), [.tmp 8]⟩
theorem c47 : (match Tryd.prog.funcs[47]? with | some fn => compileFn Tryd.prog 1 [none, none, some [], none, some [0, 1, 2, 3, 9, 10], none, none, some [], some [0, 1, 2, 3, 9, 10], some [0, 1, 2, 3, 9, 10], some [0, 1, 2, 3, 9, 10], none, none, some [0, 1, 2, 3, 9, 10], none, none, none, some [8], none, none, none, some [8], none, some [0, 1, 2, 3, 9, 10], none, none, some [0, 1, 2, 3, 9, 10, 11], none, none, some [0, 1, 2, 3, 9, 10], none, none, none, some [0, 1, 2, 3, 9, 10], none, none, some [0, 1, 2, 3, 9, 10, 12], none, none, some [0, 1, 2, 3, 9, 10], none, none, none, some [0, 1, 2, 3, 9, 10], none, some [8]] fn | none => none) = some k47 := by kernel_rfl
def q47_0 (tb : Nat → Option DFn) (nv : CallF) (Q : Value → Heap → Prop) : Kont := kSeq (fun wf H => wC tb nv c47_2 wf H (kFn [.tmp 8] Q)) (kFn [.tmp 8] Q)
def q47_1 (tb : Nat → Option DFn) (nv : CallF) (Q : Value → Heap → Prop) : Kont := kBlk 0 (q47_0 tb nv Q)
def q47_2 (tb : Nat → Option DFn) (nv : CallF) (K : Kont) : Kont := kSeq (fun wf H => wC tb nv c47_5 wf H K) K
def q47_3 (tb : Nat → Option DFn) (nv : CallF) (K : Kont) : Kont := kSeq (fun wf H => wC tb nv c47_9 wf H (q47_2 tb nv K)) (q47_2 tb nv K)
def q47_4 (tb : Nat → Option DFn) (nv : CallF) (K : Kont) : Kont := kBlk 1 (q47_3 tb nv K)
def q47_5 (tb : Nat → Option DFn) (nv : CallF) (K : Kont) : Kont := kSeq (fun wf H => wC tb nv c47_10 wf H (q47_4 tb nv K)) (q47_4 tb nv K)
def q47_6 (tb : Nat → Option DFn) (nv : CallF) (K : Kont) : Kont := kBlk 2 (q47_5 tb nv K)
def q47_7 (tb : Nat → Option DFn) (nv : CallF) (K : Kont) : Kont := kSeq (fun wf H => wC tb nv c47_27 wf H (q47_4 tb nv K)) (q47_4 tb nv K)
def q47_8 (tb : Nat → Option DFn) (nv : CallF) (K : Kont) : Kont := kBlk 4 (q47_7 tb nv K)
def q47_9 (tb : Nat → Option DFn) (nv : CallF) (K : Kont) : Kont := kBlk 6 (q47_4 tb nv K)
def w47_55 (tb : Nat → Option DFn) (nv : CallF) (H : Heap) (Q : Value → Heap → Prop) : Prop := wC tb nv c47_55 (mkW []) H (kFn [.tmp 8] Q)
def w47_17 (tb : Nat → Option DFn) (nv : CallF) (t0 t1 t2 t3 t9 t10 : Value) (H : Heap) (K : Kont) : Prop := wC tb nv c47_17 (mkW [(0, t0), (1, t1), (2, t2), (3, t3), (9, t9), (10, t10)]) H (q47_4 tb nv K)
def w47_40 (tb : Nat → Option DFn) (nv : CallF) (t0 t1 t2 t3 t9 t10 : Value) (H : Heap) (K : Kont) : Prop := wC tb nv c47_40 (mkW [(0, t0), (1, t1), (2, t2), (3, t3), (9, t9), (10, t10)]) H (q47_4 tb nv K)
def w47_53 (tb : Nat → Option DFn) (nv : CallF) (t0 t1 t2 t3 t9 t10 : Value) (H : Heap) (K : Kont) : Prop := wC tb nv c47_53 (mkW [(0, t0), (1, t1), (2, t2), (3, t3), (9, t9), (10, t10)]) H (q47_2 tb nv K)
theorem e47 (tb : Nat → Option DFn) (nv : CallF) (a0 a1 a2 a3 : Value) (H : Heap) (Q : Value → Heap → Prop) : wFn tb nv k47 [a0, a1, a2, a3] H Q = (
    wP (.bin .add) [a1, (.int .i64 1)] fun x0 =>
    wLoop tb nv c47_4 [0, 1, 2, 3, 9, 10] (mkW [(0, a0), (1, a1), (2, a2), (3, a3), (9, x0), (10, (.int .i64 0))]) H (q47_1 tb nv Q)) := by kernel_rfl
theorem l47_4 (tb : Nat → Option DFn) (nv : CallF) (t0 t1 t2 t3 t9 t10 : Value) (H : Heap) (K : Kont) : wC tb nv c47_4 (mkW [(0, t0), (1, t1), (2, t2), (3, t3), (9, t9), (10, t10)]) H K = (
    wP (.bin .lss) [t10, (.int .i64 5)] fun x1 =>
    asB x1 fun b2 => onB b2 (wLoop tb nv c47_11 [0, 1, 2, 3, 9, 10] (mkW [(0, t0), (1, t1), (2, t2), (3, t3), (9, t9), (10, t10)]) H (q47_6 tb nv K))
    (atK (K (.exit 0) (mkW []) H))) := by kernel_rfl
theorem x47_4_0 (tb : Nat → Option DFn) (nv : CallF) (H : Heap) (Q : Value → Heap → Prop) : (q47_1 tb nv Q) (.exit 0) (mkW []) H = (
    atK (w47_55 tb nv  H Q)) := by kernel_rfl
theorem e47_55 (tb : Nat → Option DFn) (nv : CallF) (H : Heap) (Q : Value → Heap → Prop) : w47_55 tb nv  H Q = (
    atK (Q (.bool false) H)) := by kernel_rfl
theorem l47_11 (tb : Nat → Option DFn) (nv : CallF) (t0 t1 t2 t3 t9 t10 : Value) (H : Heap) (K : Kont) : wC tb nv c47_11 (mkW [(0, t0), (1, t1), (2, t2), (3, t3), (9, t9), (10, t10)]) H K = (
    wP (.bin .lss) [t9, t2] fun x3 =>
    asB x3 fun b4 => onB b4 (wP (.iaddS 2) [t0, t9] fun x5 =>
    wR (.load 2 true) [x5] H fun x6 =>
    wP (.bin .sub) [t9, (.int .i64 1)] fun x7 =>
    wP (.iaddS 2) [t0, x7] fun x8 =>
    wR (.load 2 true) [x8] H fun x9 =>
    wIns (Ev tb nv) .callv [t3, x6, x9] H fun x10 H11 =>
    wP (.bin .lss) [x10, (.int .i64 0)] fun x12 =>
    wP (.un .not) [x12] fun x13 =>
    asB x13 fun b14 => onB b14 (wP (.bin .add) [t9, (.int .i64 1)] fun x15 =>
    atK (K .normal (mkW [(0, t0), (1, t1), (2, t2), (3, t3), (9, x15), (10, t10)]) H11))
    (atK (K (.exit 2) (mkW [(0, t0), (1, t1), (2, t2), (3, t3), (9, t9), (10, t10)]) H11)))
    (atK (K (.exit 2) (mkW [(0, t0), (1, t1), (2, t2), (3, t3), (9, t9), (10, t10)]) H))) := by kernel_rfl
theorem x47_11_0 (tb : Nat → Option DFn) (nv : CallF) (t0 t1 t2 t3 t9 t10 : Value) (H : Heap) (K : Kont) : (q47_6 tb nv K) (.exit 2) (mkW [(0, t0), (1, t1), (2, t2), (3, t3), (9, t9), (10, t10)]) H = (
    atK (w47_17 tb nv t0 t1 t2 t3 t9 t10 H K)) := by kernel_rfl
theorem e47_17 (tb : Nat → Option DFn) (nv : CallF) (t0 t1 t2 t3 t9 t10 : Value) (H : Heap) (K : Kont) : w47_17 tb nv t0 t1 t2 t3 t9 t10 H K = (
    wP (.bin .eql) [t9, t2] fun x16 =>
    asB x16 fun b17 => onB b17 (atK (K .ret (mkW [(8, (.bool true))]) H))
    (wP (.bin .sub) [t2, t1] fun x18 =>
    wP (.bin .lss) [x18, (.int .i64 50)] fun x19 =>
    asB x19 fun b20 => onB b20 (atK (K .ret (mkW [(8, (.bool false))]) H))
    (wP (.bin .sub) [t9, (.int .i64 1)] fun x21 =>
    wP (.bin .sub) [t9, (.int .i64 1)] fun x22 =>
    wP (.iaddS 2) [t0, x22] fun x23 =>
    wR (.load 2 true) [x23] H fun x24 =>
    wP (.iaddS 2) [t0, t9] fun x25 =>
    wR (.load 2 true) [x25] H fun x26 =>
    wP (.iaddS 2) [t0, t9] fun x27 =>
    wE (.store 2) [x27, x24] H fun x28 H29 =>
    wP (.iaddS 2) [t0, x21] fun x30 =>
    wE (.store 2) [x30, x26] H29 fun x31 H32 =>
    wP (.bin .sub) [t9, t1] fun x33 =>
    wP (.bin .geq) [x33, (.int .i64 2)] fun x34 =>
    asB x34 fun b35 => onB b35 (wP (.bin .sub) [t9, (.int .i64 1)] fun x36 =>
    wLoop tb nv c47_30 [0, 1, 2, 3, 9, 10, 11] (mkW [(0, t0), (1, t1), (2, t2), (3, t3), (9, t9), (10, t10), (11, x36)]) H32 (q47_8 tb nv K))
    (atK (w47_40 tb nv t0 t1 t2 t3 t9 t10 H32 K))))) := by kernel_rfl
theorem e47_40 (tb : Nat → Option DFn) (nv : CallF) (t0 t1 t2 t3 t9 t10 : Value) (H : Heap) (K : Kont) : w47_40 tb nv t0 t1 t2 t3 t9 t10 H K = (
    wP (.bin .sub) [t2, t9] fun x37 =>
    wP (.bin .geq) [x37, (.int .i64 2)] fun x38 =>
    asB x38 fun b39 => onB b39 (wP (.bin .add) [t9, (.int .i64 1)] fun x40 =>
    wLoop tb nv c47_43 [0, 1, 2, 3, 9, 10, 12] (mkW [(0, t0), (1, t1), (2, t2), (3, t3), (9, t9), (10, t10), (12, x40)]) H (q47_9 tb nv K))
    (atK (w47_53 tb nv t0 t1 t2 t3 t9 t10 H K))) := by kernel_rfl
theorem e47_53 (tb : Nat → Option DFn) (nv : CallF) (t0 t1 t2 t3 t9 t10 : Value) (H : Heap) (K : Kont) : w47_53 tb nv t0 t1 t2 t3 t9 t10 H K = (
    wP (.bin .add) [t10, (.int .i64 1)] fun x41 =>
    atK (K .normal (mkW [(0, t0), (1, t1), (2, t2), (3, t3), (9, t9), (10, x41)]) H)) := by kernel_rfl
theorem l47_30 (tb : Nat → Option DFn) (nv : CallF) (t0 t1 t2 t3 t9 t10 t11 : Value) (H : Heap) (K : Kont) : wC tb nv c47_30 (mkW [(0, t0), (1, t1), (2, t2), (3, t3), (9, t9), (10, t10), (11, t11)]) H K = (
    wP (.bin .geq) [t11, (.int .i64 1)] fun x42 =>
    asB x42 fun b43 => onB b43 (wP (.iaddS 2) [t0, t11] fun x44 =>
    wR (.load 2 true) [x44] H fun x45 =>
    wP (.bin .sub) [t11, (.int .i64 1)] fun x46 =>
    wP (.iaddS 2) [t0, x46] fun x47 =>
    wR (.load 2 true) [x47] H fun x48 =>
    wIns (Ev tb nv) .callv [t3, x45, x48] H fun x49 H50 =>
    wP (.bin .lss) [x49, (.int .i64 0)] fun x51 =>
    wP (.un .not) [x51] fun x52 =>
    asB x52 fun b53 => onB b53 (atK (K (.exit 4) (mkW [(0, t0), (1, t1), (2, t2), (3, t3), (9, t9), (10, t10)]) H50))
    (wP (.bin .sub) [t11, (.int .i64 1)] fun x54 =>
    wP (.bin .sub) [t11, (.int .i64 1)] fun x55 =>
    wP (.iaddS 2) [t0, x55] fun x56 =>
    wR (.load 2 true) [x56] H50 fun x57 =>
    wP (.iaddS 2) [t0, t11] fun x58 =>
    wR (.load 2 true) [x58] H50 fun x59 =>
    wP (.iaddS 2) [t0, t11] fun x60 =>
    wE (.store 2) [x60, x57] H50 fun x61 H62 =>
    wP (.iaddS 2) [t0, x54] fun x63 =>
    wE (.store 2) [x63, x59] H62 fun x64 H65 =>
    wP (.bin .sub) [t11, (.int .i64 1)] fun x66 =>
    atK (K .normal (mkW [(0, t0), (1, t1), (2, t2), (3, t3), (9, t9), (10, t10), (11, x66)]) H65)))
    (atK (K (.exit 4) (mkW [(0, t0), (1, t1), (2, t2), (3, t3), (9, t9), (10, t10)]) H))) := by kernel_rfl
theorem x47_30_0 (tb : Nat → Option DFn) (nv : CallF) (t0 t1 t2 t3 t9 t10 : Value) (H : Heap) (K : Kont) : (q47_8 tb nv K) (.exit 4) (mkW [(0, t0), (1, t1), (2, t2), (3, t3), (9, t9), (10, t10)]) H = (
    atK (w47_40 tb nv t0 t1 t2 t3 t9 t10 H K)) := by kernel_rfl
theorem l47_43 (tb : Nat → Option DFn) (nv : CallF) (t0 t1 t2 t3 t9 t10 t12 : Value) (H : Heap) (K : Kont) : wC tb nv c47_43 (mkW [(0, t0), (1, t1), (2, t2), (3, t3), (9, t9), (10, t10), (12, t12)]) H K = (
    wP (.bin .lss) [t12, t2] fun x67 =>
    asB x67 fun b68 => onB b68 (wP (.iaddS 2) [t0, t12] fun x69 =>
    wR (.load 2 true) [x69] H fun x70 =>
    wP (.bin .sub) [t12, (.int .i64 1)] fun x71 =>
    wP (.iaddS 2) [t0, x71] fun x72 =>
    wR (.load 2 true) [x72] H fun x73 =>
    wIns (Ev tb nv) .callv [t3, x70, x73] H fun x74 H75 =>
    wP (.bin .lss) [x74, (.int .i64 0)] fun x76 =>
    wP (.un .not) [x76] fun x77 =>
    asB x77 fun b78 => onB b78 (atK (K (.exit 6) (mkW [(0, t0), (1, t1), (2, t2), (3, t3), (9, t9), (10, t10)]) H75))
    (wP (.bin .sub) [t12, (.int .i64 1)] fun x79 =>
    wP (.bin .sub) [t12, (.int .i64 1)] fun x80 =>
    wP (.iaddS 2) [t0, x80] fun x81 =>
    wR (.load 2 true) [x81] H75 fun x82 =>
    wP (.iaddS 2) [t0, t12] fun x83 =>
    wR (.load 2 true) [x83] H75 fun x84 =>
    wP (.iaddS 2) [t0, t12] fun x85 =>
    wE (.store 2) [x85, x82] H75 fun x86 H87 =>
    wP (.iaddS 2) [t0, x79] fun x88 =>
    wE (.store 2) [x88, x84] H87 fun x89 H90 =>
    wP (.bin .add) [t12, (.int .i64 1)] fun x91 =>
    atK (K .normal (mkW [(0, t0), (1, t1), (2, t2), (3, t3), (9, t9), (10, t10), (12, x91)]) H90)))
    (atK (K (.exit 6) (mkW [(0, t0), (1, t1), (2, t2), (3, t3), (9, t9), (10, t10)]) H))) := by kernel_rfl
theorem x47_43_0 (tb : Nat → Option DFn) (nv : CallF) (t0 t1 t2 t3 t9 t10 : Value) (H : Heap) (K : Kont) : (q47_9 tb nv K) (.exit 6) (mkW [(0, t0), (1, t1), (2, t2), (3, t3), (9, t9), (10, t10)]) H = (
    atK (w47_53 tb nv t0 t1 t2 t3 t9 t10 H K)) := by kernel_rfl

/-- slices.partitionEqualCmpFunc[[2]int] -/
def c48_30 : C := .ret
def c48_29 : C := (.keep [10] c48_30)
def c48_28 : C := (.seq (.region [
      ⟨(some 89), (.pure .mov), [.t 11], none⟩,
      ⟨(some 10), (.pure .mov), [.t 89], none⟩] false) c48_29)
def c48_3 : C := (.keep [11] c48_28)
def c48_27 : C := .skip
def c48_5 : C := (.keep [0, 1, 4, 11, 12] c48_27)
def c48_26 : C := (.region [
      ⟨(some 87), (.pure .mov), [.t 12], none⟩,
      ⟨(some 88), (.pure (.bin .sub)), [.t 87, .c (.int .i64 (Int.ofNat 1))], none⟩,
      ⟨(some 12), (.pure .mov), [.t 88], none⟩] false)
def c48_25 : C := (.seq (.region [
      ⟨(some 85), (.pure .mov), [.t 11], none⟩,
      ⟨(some 86), (.pure (.bin .add)), [.t 85, .c (.int .i64 (Int.ofNat 1))], none⟩,
      ⟨(some 11), (.pure .mov), [.t 86], none⟩] false) c48_26)
def c48_22 : C := (.seq (.region [
      ⟨(some 71), (.pure .mov), [.t 0], none⟩,
      ⟨(some 72), (.pure .mov), [.t 11], none⟩,
      ⟨(some 73), (.pure .mov), [.t 0], none⟩,
      ⟨(some 74), (.pure .mov), [.t 12], none⟩,
      ⟨(some 75), (.pure .mov), [.t 0], none⟩,
      ⟨(some 76), (.pure .mov), [.t 12], none⟩,
      ⟨(some 77), (.pure (.iaddS 2)), [.t 75, .t 76], none⟩,
      ⟨(some 78), (.read (.load 2 true) []), [.t 77], none⟩,
      ⟨(some 79), (.pure .mov), [.t 0], none⟩,
      ⟨(some 80), (.pure .mov), [.t 11], none⟩,
      ⟨(some 81), (.pure (.iaddS 2)), [.t 79, .t 80], none⟩,
      ⟨(some 82), (.read (.load 2 true) []), [.t 81], none⟩,
      ⟨(some 83), (.pure (.iaddS 2)), [.t 71, .t 72], none⟩,
      ⟨none, (.eff (.store 2)), [.t 83, .t 78], none⟩,
      ⟨(some 84), (.pure (.iaddS 2)), [.t 73, .t 74], none⟩,
      ⟨none, (.eff (.store 2)), [.t 84, .t 82], none⟩] false) c48_25)
def c48_24 : C := (.exit 0)
def c48_23 : C := (.cond (.t 70) (.keep [11] c48_24)
    .skip)
def c48_21 : C := (.seq (.seq (.region [
      ⟨(some 68), (.pure .mov), [.t 11], none⟩,
      ⟨(some 69), (.pure .mov), [.t 12], none⟩,
      ⟨(some 70), (.pure (.bin .gtr)), [.t 68, .t 69], none⟩] false) c48_23) c48_22)
def c48_14 : C := (.keep [0, 1, 4, 11, 12] c48_21)
def c48_20 : C := .skip
def c48_16 : C := (.keep [0, 1, 4, 11, 12] c48_20)
def c48_17 : C := (.block 5 (.region [
      ⟨(some 66), (.pure .mov), [.t 12], none⟩,
      ⟨(some 67), (.pure (.bin .sub)), [.t 66, .c (.int .i64 (Int.ofNat 1))], none⟩,
      ⟨(some 12), (.pure .mov), [.t 67], none⟩] false))
def c48_19 : C := (.exit 4)
def c48_18 : C := (.cond (.t 65) .skip
    (.keep [0, 1, 4, 11, 12] c48_19))
def c48_15 : C := (.seq (.seq (.seq (.region [
      ⟨(some 50), (.pure .mov), [.t 11], none⟩,
      ⟨(some 51), (.pure .mov), [.t 12], none⟩,
      ⟨(some 52), (.pure (.bin .leq)), [.t 50, .t 51], none⟩,
      ⟨(some 53), (.pure .mov), [.t 52], none⟩,
      ⟨(some 54), (.pure .mov), [.t 4], (some (53, true))⟩,
      ⟨(some 55), (.pure .mov), [.t 0], (some (53, true))⟩,
      ⟨(some 56), (.pure .mov), [.t 1], (some (53, true))⟩,
      ⟨(some 57), (.pure (.iaddS 2)), [.t 55, .t 56], (some (53, true))⟩,
      ⟨(some 58), (.read (.load 2 true) []), [.t 57], (some (53, true))⟩,
      ⟨(some 59), (.pure .mov), [.t 0], (some (53, true))⟩,
      ⟨(some 60), (.pure .mov), [.t 12], (some (53, true))⟩,
      ⟨(some 61), (.pure (.iaddS 2)), [.t 59, .t 60], (some (53, true))⟩,
      ⟨(some 62), (.read (.load 2 true) []), [.t 61], (some (53, true))⟩,
      ⟨(some 63), .callv, [.t 54, .t 58, .t 62], (some (53, true))⟩,
      ⟨(some 64), (.pure (.bin .lss)), [.t 63, .c (.int .i64 (Int.ofNat 0))], (some (53, true))⟩,
      ⟨(some 65), (.pure .pick), [.t 53, .t 64, .c (.bool false)], none⟩] false) c48_18) c48_17) c48_16)
def c48_13 : C := (.seq (.block 4 (.loop (some [0, 1, 4, 11, 12]) c48_15)) c48_14)
def c48_6 : C := (.keep [0, 1, 4, 11, 12] c48_13)
def c48_12 : C := .skip
def c48_8 : C := (.keep [0, 1, 4, 11, 12] c48_12)
def c48_9 : C := (.block 3 (.region [
      ⟨(some 48), (.pure .mov), [.t 11], none⟩,
      ⟨(some 49), (.pure (.bin .add)), [.t 48, .c (.int .i64 (Int.ofNat 1))], none⟩,
      ⟨(some 11), (.pure .mov), [.t 49], none⟩] false))
def c48_11 : C := (.exit 2)
def c48_10 : C := (.cond (.t 47) .skip
    (.keep [0, 1, 4, 11, 12] c48_11))
def c48_7 : C := (.seq (.seq (.seq (.region [
      ⟨(some 31), (.pure .mov), [.t 11], none⟩,
      ⟨(some 32), (.pure .mov), [.t 12], none⟩,
      ⟨(some 33), (.pure (.bin .leq)), [.t 31, .t 32], none⟩,
      ⟨(some 34), (.pure .mov), [.t 33], none⟩,
      ⟨(some 35), (.pure .mov), [.t 4], (some (34, true))⟩,
      ⟨(some 36), (.pure .mov), [.t 0], (some (34, true))⟩,
      ⟨(some 37), (.pure .mov), [.t 1], (some (34, true))⟩,
      ⟨(some 38), (.pure (.iaddS 2)), [.t 36, .t 37], (some (34, true))⟩,
      ⟨(some 39), (.read (.load 2 true) []), [.t 38], (some (34, true))⟩,
      ⟨(some 40), (.pure .mov), [.t 0], (some (34, true))⟩,
      ⟨(some 41), (.pure .mov), [.t 11], (some (34, true))⟩,
      ⟨(some 42), (.pure (.iaddS 2)), [.t 40, .t 41], (some (34, true))⟩,
      ⟨(some 43), (.read (.load 2 true) []), [.t 42], (some (34, true))⟩,
      ⟨(some 44), .callv, [.t 35, .t 39, .t 43], (some (34, true))⟩,
      ⟨(some 45), (.pure (.bin .lss)), [.t 44, .c (.int .i64 (Int.ofNat 0))], (some (34, true))⟩,
      ⟨(some 46), (.pure (.un .not)), [.t 45], (some (34, true))⟩,
      ⟨(some 47), (.pure .pick), [.t 34, .t 46, .c (.bool false)], none⟩] false) c48_10) c48_9) c48_8)
def c48_4 : C := (.seq (.block 1 (.seq (.block 2 (.loop (some [0, 1, 4, 11, 12]) c48_7)) c48_6)) c48_5)
def c48_2 : C := (.seq (.block 0 (.loop (some [0, 1, 4, 11, 12]) c48_4)) c48_3)
def c48_1 : C := (.seq (.region [
      ⟨(some 27), (.pure .mov), [.t 1], none⟩,
      ⟨(some 28), (.pure (.bin .add)), [.t 27, .c (.int .i64 (Int.ofNat 1))], none⟩,
      ⟨(some 29), (.pure .mov), [.t 2], none⟩,
      ⟨(some 30), (.pure (.bin .sub)), [.t 29, .c (.int .i64 (Int.ofNat 1))], none⟩,
      ⟨(some 11), (.pure .mov), [.t 28], none⟩,
      ⟨(some 12), (.pure .mov), [.t 30], none⟩] false) c48_2)
def c48_0 : C := (.seq (.region [
      ⟨(some 13), (.pure .mov), [.t 0], none⟩,
      ⟨(some 14), (.pure .mov), [.t 1], none⟩,
      ⟨(some 15), (.pure .mov), [.t 0], none⟩,
      ⟨(some 16), (.pure .mov), [.t 3], none⟩,
      ⟨(some 17), (.pure .mov), [.t 0], none⟩,
      ⟨(some 18), (.pure .mov), [.t 3], none⟩,
      ⟨(some 19), (.pure (.iaddS 2)), [.t 17, .t 18], none⟩,
      ⟨(some 20), (.read (.load 2 true) []), [.t 19], none⟩,
      ⟨(some 21), (.pure .mov), [.t 0], none⟩,
      ⟨(some 22), (.pure .mov), [.t 1], none⟩,
      ⟨(some 23), (.pure (.iaddS 2)), [.t 21, .t 22], none⟩,
      ⟨(some 24), (.read (.load 2 true) []), [.t 23], none⟩,
      ⟨(some 25), (.pure (.iaddS 2)), [.t 13, .t 14], none⟩,
      ⟨none, (.eff (.store 2)), [.t 25, .t 20], none⟩,
      ⟨(some 26), (.pure (.iaddS 2)), [.t 15, .t 16], none⟩,
      ⟨none, (.eff (.store 2)), [.t 26, .t 24], none⟩] false) c48_1)
def k48 : DFn := ⟨90, (.seq (.region [
      ⟨(some 10), (.pure .mov), [.c (.int .i64 (Int.ofNat 0))], none⟩] false) c48_0), [.tmp 10]⟩
theorem c48 : (match Tryd.prog.funcs[48]? with | some fn => compileFn Tryd.prog 1 [none, none, none, some [11], some [0, 1, 4, 11, 12], some [0, 1, 4, 11, 12], some [0, 1, 4, 11, 12], none, none, some [0, 1, 4, 11, 12], some [0, 1, 4, 11, 12], some [0, 1, 4, 11, 12], none, none, some [0, 1, 4, 11, 12], none, none, some [11], none, none, none, some [10]] fn | none => none) = some k48 := by kernel_rfl
def q48_0 (tb : Nat → Option DFn) (nv : CallF) (Q : Value → Heap → Prop) : Kont := kSeq (fun wf H => wC tb nv c48_3 wf H (kFn [.tmp 10] Q)) (kFn [.tmp 10] Q)
def q48_1 (tb : Nat → Option DFn) (nv : CallF) (Q : Value → Heap → Prop) : Kont := kBlk 0 (q48_0 tb nv Q)
def q48_2 (tb : Nat → Option DFn) (nv : CallF) (K : Kont) : Kont := kSeq (fun wf H => wC tb nv c48_5 wf H K) K
def q48_3 (tb : Nat → Option DFn) (nv : CallF) (K : Kont) : Kont := kBlk 1 (q48_2 tb nv K)
def q48_4 (tb : Nat → Option DFn) (nv : CallF) (K : Kont) : Kont := kSeq (fun wf H => wC tb nv c48_6 wf H (q48_3 tb nv K)) (q48_3 tb nv K)
def q48_5 (tb : Nat → Option DFn) (nv : CallF) (K : Kont) : Kont := kBlk 2 (q48_4 tb nv K)
def q48_6 (tb : Nat → Option DFn) (nv : CallF) (K : Kont) : Kont := kSeq (fun wf H => wC tb nv c48_14 wf H (q48_3 tb nv K)) (q48_3 tb nv K)
def q48_7 (tb : Nat → Option DFn) (nv : CallF) (K : Kont) : Kont := kBlk 4 (q48_6 tb nv K)
def w48_13 (tb : Nat → Option DFn) (nv : CallF) (t0 t1 t4 t11 t12 : Value) (H : Heap) (K : Kont) : Prop := wC tb nv c48_13 (mkW [(0, t0), (1, t1), (4, t4), (11, t11), (12, t12)]) H (q48_3 tb nv K)
def w48_21 (tb : Nat → Option DFn) (nv : CallF) (t0 t1 t4 t11 t12 : Value) (H : Heap) (K : Kont) : Prop := wC tb nv c48_21 (mkW [(0, t0), (1, t1), (4, t4), (11, t11), (12, t12)]) H (q48_3 tb nv K)
theorem e48 (tb : Nat → Option DFn) (nv : CallF) (a0 a1 a2 a3 a4 : Value) (H : Heap) (Q : Value → Heap → Prop) : wFn tb nv k48 [a0, a1, a2, a3, a4] H Q = (
    wP (.iaddS 2) [a0, a3] fun x0 =>
    wR (.load 2 true) [x0] H fun x1 =>
    wP (.iaddS 2) [a0, a1] fun x2 =>
    wR (.load 2 true) [x2] H fun x3 =>
    wP (.iaddS 2) [a0, a1] fun x4 =>
    wE (.store 2) [x4, x1] H fun x5 H6 =>
    wP (.iaddS 2) [a0, a3] fun x7 =>
    wE (.store 2) [x7, x3] H6 fun x8 H9 =>
    wP (.bin .add) [a1, (.int .i64 1)] fun x10 =>
    wP (.bin .sub) [a2, (.int .i64 1)] fun x11 =>
    wLoop tb nv c48_4 [0, 1, 4, 11, 12] (mkW [(0, a0), (1, a1), (4, a4), (11, x10), (12, x11)]) H9 (q48_1 tb nv Q)) := by kernel_rfl
theorem l48_4 (tb : Nat → Option DFn) (nv : CallF) (t0 t1 t4 t11 t12 : Value) (H : Heap) (K : Kont) : wC tb nv c48_4 (mkW [(0, t0), (1, t1), (4, t4), (11, t11), (12, t12)]) H K = (
    wLoop tb nv c48_7 [0, 1, 4, 11, 12] (mkW [(0, t0), (1, t1), (4, t4), (11, t11), (12, t12)]) H (q48_5 tb nv K)) := by kernel_rfl
theorem l48_7 (tb : Nat → Option DFn) (nv : CallF) (t0 t1 t4 t11 t12 : Value) (H : Heap) (K : Kont) : wC tb nv c48_7 (mkW [(0, t0), (1, t1), (4, t4), (11, t11), (12, t12)]) H K = (
    wP (.bin .leq) [t11, t12] fun x12 =>
    asB x12 fun b13 => onB b13 (wP (.iaddS 2) [t0, t1] fun x14 =>
    wR (.load 2 true) [x14] H fun x15 =>
    wP (.iaddS 2) [t0, t11] fun x16 =>
    wR (.load 2 true) [x16] H fun x17 =>
    wIns (Ev tb nv) .callv [t4, x15, x17] H fun x18 H19 =>
    wP (.bin .lss) [x18, (.int .i64 0)] fun x20 =>
    wP (.un .not) [x20] fun x21 =>
    asB x21 fun b22 => onB b22 (wP (.bin .add) [t11, (.int .i64 1)] fun x23 =>
    atK (K .normal (mkW [(0, t0), (1, t1), (4, t4), (11, x23), (12, t12)]) H19))
    (atK (K (.exit 2) (mkW [(0, t0), (1, t1), (4, t4), (11, t11), (12, t12)]) H19)))
    (atK (K (.exit 2) (mkW [(0, t0), (1, t1), (4, t4), (11, t11), (12, t12)]) H))) := by kernel_rfl
theorem x48_7_0 (tb : Nat → Option DFn) (nv : CallF) (t0 t1 t4 t11 t12 : Value) (H : Heap) (K : Kont) : (q48_5 tb nv K) (.exit 2) (mkW [(0, t0), (1, t1), (4, t4), (11, t11), (12, t12)]) H = (
    atK (w48_13 tb nv t0 t1 t4 t11 t12 H K)) := by kernel_rfl
theorem e48_13 (tb : Nat → Option DFn) (nv : CallF) (t0 t1 t4 t11 t12 : Value) (H : Heap) (K : Kont) : w48_13 tb nv t0 t1 t4 t11 t12 H K = (
    wLoop tb nv c48_15 [0, 1, 4, 11, 12] (mkW [(0, t0), (1, t1), (4, t4), (11, t11), (12, t12)]) H (q48_7 tb nv K)) := by kernel_rfl
theorem l48_15 (tb : Nat → Option DFn) (nv : CallF) (t0 t1 t4 t11 t12 : Value) (H : Heap) (K : Kont) : wC tb nv c48_15 (mkW [(0, t0), (1, t1), (4, t4), (11, t11), (12, t12)]) H K = (
    wP (.bin .leq) [t11, t12] fun x24 =>
    asB x24 fun b25 => onB b25 (wP (.iaddS 2) [t0, t1] fun x26 =>
    wR (.load 2 true) [x26] H fun x27 =>
    wP (.iaddS 2) [t0, t12] fun x28 =>
    wR (.load 2 true) [x28] H fun x29 =>
    wIns (Ev tb nv) .callv [t4, x27, x29] H fun x30 H31 =>
    wP (.bin .lss) [x30, (.int .i64 0)] fun x32 =>
    asB x32 fun b33 => onB b33 (wP (.bin .sub) [t12, (.int .i64 1)] fun x34 =>
    atK (K .normal (mkW [(0, t0), (1, t1), (4, t4), (11, t11), (12, x34)]) H31))
    (atK (K (.exit 4) (mkW [(0, t0), (1, t1), (4, t4), (11, t11), (12, t12)]) H31)))
    (atK (K (.exit 4) (mkW [(0, t0), (1, t1), (4, t4), (11, t11), (12, t12)]) H))) := by kernel_rfl
theorem x48_15_0 (tb : Nat → Option DFn) (nv : CallF) (t0 t1 t4 t11 t12 : Value) (H : Heap) (K : Kont) : (q48_7 tb nv K) (.exit 4) (mkW [(0, t0), (1, t1), (4, t4), (11, t11), (12, t12)]) H = (
    atK (w48_21 tb nv t0 t1 t4 t11 t12 H K)) := by kernel_rfl
theorem e48_21 (tb : Nat → Option DFn) (nv : CallF) (t0 t1 t4 t11 t12 : Value) (H : Heap) (K : Kont) : w48_21 tb nv t0 t1 t4 t11 t12 H K = (
    wP (.bin .gtr) [t11, t12] fun x35 =>
    asB x35 fun b36 => onB b36 (atK (K (.exit 0) (mkW [(11, t11)]) H))
    (wP (.iaddS 2) [t0, t12] fun x37 =>
    wR (.load 2 true) [x37] H fun x38 =>
    wP (.iaddS 2) [t0, t11] fun x39 =>
    wR (.load 2 true) [x39] H fun x40 =>
    wP (.iaddS 2) [t0, t11] fun x41 =>
    wE (.store 2) [x41, x38] H fun x42 H43 =>
    wP (.iaddS 2) [t0, t12] fun x44 =>
    wE (.store 2) [x44, x40] H43 fun x45 H46 =>
    wP (.bin .add) [t11, (.int .i64 1)] fun x47 =>
    wP (.bin .sub) [t12, (.int .i64 1)] fun x48 =>
    atK (K .normal (mkW [(0, t0), (1, t1), (4, t4), (11, x47), (12, x48)]) H46))) := by kernel_rfl

/-- slices.partitionCmpFunc[[2]int] -/
def c49_55 : C := .ret
def c49_54 : C := (.keep [10, 11] c49_55)
def c49_53 : C := (.seq (.region [
      ⟨(some 177), (.pure .mov), [.t 13], none⟩,
      ⟨(some 10), (.pure .mov), [.t 177], none⟩,
      ⟨(some 11), (.pure .mov), [.c (.bool false)], none⟩] false) c49_54)
def c49_52 : C := (.seq (.region [
      ⟨(some 163), (.pure .mov), [.t 0], none⟩,
      ⟨(some 164), (.pure .mov), [.t 13], none⟩,
      ⟨(some 165), (.pure .mov), [.t 0], none⟩,
      ⟨(some 166), (.pure .mov), [.t 1], none⟩,
      ⟨(some 167), (.pure .mov), [.t 0], none⟩,
      ⟨(some 168), (.pure .mov), [.t 1], none⟩,
      ⟨(some 169), (.pure (.iaddS 2)), [.t 167, .t 168], none⟩,
      ⟨(some 170), (.read (.load 2 true) []), [.t 169], none⟩,
      ⟨(some 171), (.pure .mov), [.t 0], none⟩,
      ⟨(some 172), (.pure .mov), [.t 13], none⟩,
      ⟨(some 173), (.pure (.iaddS 2)), [.t 171, .t 172], none⟩,
      ⟨(some 174), (.read (.load 2 true) []), [.t 173], none⟩,
      ⟨(some 175), (.pure (.iaddS 2)), [.t 163, .t 164], none⟩,
      ⟨none, (.eff (.store 2)), [.t 175, .t 170], none⟩,
      ⟨(some 176), (.pure (.iaddS 2)), [.t 165, .t 166], none⟩,
      ⟨none, (.eff (.store 2)), [.t 176, .t 174], none⟩] false) c49_53)
def c49_27 : C := (.keep [0, 1, 13] c49_52)
def c49_51 : C := .skip
def c49_29 : C := (.keep [0, 1, 4, 12, 13] c49_51)
def c49_50 : C := (.region [
      ⟨(some 161), (.pure .mov), [.t 13], none⟩,
      ⟨(some 162), (.pure (.bin .sub)), [.t 161, .c (.int .i64 (Int.ofNat 1))], none⟩,
      ⟨(some 13), (.pure .mov), [.t 162], none⟩] false)
def c49_49 : C := (.seq (.region [
      ⟨(some 159), (.pure .mov), [.t 12], none⟩,
      ⟨(some 160), (.pure (.bin .add)), [.t 159, .c (.int .i64 (Int.ofNat 1))], none⟩,
      ⟨(some 12), (.pure .mov), [.t 160], none⟩] false) c49_50)
def c49_46 : C := (.seq (.region [
      ⟨(some 145), (.pure .mov), [.t 0], none⟩,
      ⟨(some 146), (.pure .mov), [.t 12], none⟩,
      ⟨(some 147), (.pure .mov), [.t 0], none⟩,
      ⟨(some 148), (.pure .mov), [.t 13], none⟩,
      ⟨(some 149), (.pure .mov), [.t 0], none⟩,
      ⟨(some 150), (.pure .mov), [.t 13], none⟩,
      ⟨(some 151), (.pure (.iaddS 2)), [.t 149, .t 150], none⟩,
      ⟨(some 152), (.read (.load 2 true) []), [.t 151], none⟩,
      ⟨(some 153), (.pure .mov), [.t 0], none⟩,
      ⟨(some 154), (.pure .mov), [.t 12], none⟩,
      ⟨(some 155), (.pure (.iaddS 2)), [.t 153, .t 154], none⟩,
      ⟨(some 156), (.read (.load 2 true) []), [.t 155], none⟩,
      ⟨(some 157), (.pure (.iaddS 2)), [.t 145, .t 146], none⟩,
      ⟨none, (.eff (.store 2)), [.t 157, .t 152], none⟩,
      ⟨(some 158), (.pure (.iaddS 2)), [.t 147, .t 148], none⟩,
      ⟨none, (.eff (.store 2)), [.t 158, .t 156], none⟩] false) c49_49)
def c49_48 : C := (.exit 4)
def c49_47 : C := (.cond (.t 144) (.keep [0, 1, 13] c49_48)
    .skip)
def c49_45 : C := (.seq (.seq (.region [
      ⟨(some 142), (.pure .mov), [.t 12], none⟩,
      ⟨(some 143), (.pure .mov), [.t 13], none⟩,
      ⟨(some 144), (.pure (.bin .gtr)), [.t 142, .t 143], none⟩] false) c49_47) c49_46)
def c49_38 : C := (.keep [0, 1, 4, 12, 13] c49_45)
def c49_44 : C := .skip
def c49_40 : C := (.keep [0, 1, 4, 12, 13] c49_44)
def c49_41 : C := (.block 9 (.region [
      ⟨(some 140), (.pure .mov), [.t 13], none⟩,
      ⟨(some 141), (.pure (.bin .sub)), [.t 140, .c (.int .i64 (Int.ofNat 1))], none⟩,
      ⟨(some 13), (.pure .mov), [.t 141], none⟩] false))
def c49_43 : C := (.exit 8)
def c49_42 : C := (.cond (.t 139) .skip
    (.keep [0, 1, 4, 12, 13] c49_43))
def c49_39 : C := (.seq (.seq (.seq (.region [
      ⟨(some 123), (.pure .mov), [.t 12], none⟩,
      ⟨(some 124), (.pure .mov), [.t 13], none⟩,
      ⟨(some 125), (.pure (.bin .leq)), [.t 123, .t 124], none⟩,
      ⟨(some 126), (.pure .mov), [.t 125], none⟩,
      ⟨(some 127), (.pure .mov), [.t 4], (some (126, true))⟩,
      ⟨(some 128), (.pure .mov), [.t 0], (some (126, true))⟩,
      ⟨(some 129), (.pure .mov), [.t 13], (some (126, true))⟩,
      ⟨(some 130), (.pure (.iaddS 2)), [.t 128, .t 129], (some (126, true))⟩,
      ⟨(some 131), (.read (.load 2 true) []), [.t 130], (some (126, true))⟩,
      ⟨(some 132), (.pure .mov), [.t 0], (some (126, true))⟩,
      ⟨(some 133), (.pure .mov), [.t 1], (some (126, true))⟩,
      ⟨(some 134), (.pure (.iaddS 2)), [.t 132, .t 133], (some (126, true))⟩,
      ⟨(some 135), (.read (.load 2 true) []), [.t 134], (some (126, true))⟩,
      ⟨(some 136), .callv, [.t 127, .t 131, .t 135], (some (126, true))⟩,
      ⟨(some 137), (.pure (.bin .lss)), [.t 136, .c (.int .i64 (Int.ofNat 0))], (some (126, true))⟩,
      ⟨(some 138), (.pure (.un .not)), [.t 137], (some (126, true))⟩,
      ⟨(some 139), (.pure .pick), [.t 126, .t 138, .c (.bool false)], none⟩] false) c49_42) c49_41) c49_40)
def c49_37 : C := (.seq (.block 8 (.loop (some [0, 1, 4, 12, 13]) c49_39)) c49_38)
def c49_30 : C := (.keep [0, 1, 4, 12, 13] c49_37)
def c49_36 : C := .skip
def c49_32 : C := (.keep [0, 1, 4, 12, 13] c49_36)
def c49_33 : C := (.block 7 (.region [
      ⟨(some 121), (.pure .mov), [.t 12], none⟩,
      ⟨(some 122), (.pure (.bin .add)), [.t 121, .c (.int .i64 (Int.ofNat 1))], none⟩,
      ⟨(some 12), (.pure .mov), [.t 122], none⟩] false))
def c49_35 : C := (.exit 6)
def c49_34 : C := (.cond (.t 120) .skip
    (.keep [0, 1, 4, 12, 13] c49_35))
def c49_31 : C := (.seq (.seq (.seq (.region [
      ⟨(some 105), (.pure .mov), [.t 12], none⟩,
      ⟨(some 106), (.pure .mov), [.t 13], none⟩,
      ⟨(some 107), (.pure (.bin .leq)), [.t 105, .t 106], none⟩,
      ⟨(some 108), (.pure .mov), [.t 107], none⟩,
      ⟨(some 109), (.pure .mov), [.t 4], (some (108, true))⟩,
      ⟨(some 110), (.pure .mov), [.t 0], (some (108, true))⟩,
      ⟨(some 111), (.pure .mov), [.t 12], (some (108, true))⟩,
      ⟨(some 112), (.pure (.iaddS 2)), [.t 110, .t 111], (some (108, true))⟩,
      ⟨(some 113), (.read (.load 2 true) []), [.t 112], (some (108, true))⟩,
      ⟨(some 114), (.pure .mov), [.t 0], (some (108, true))⟩,
      ⟨(some 115), (.pure .mov), [.t 1], (some (108, true))⟩,
      ⟨(some 116), (.pure (.iaddS 2)), [.t 114, .t 115], (some (108, true))⟩,
      ⟨(some 117), (.read (.load 2 true) []), [.t 116], (some (108, true))⟩,
      ⟨(some 118), .callv, [.t 109, .t 113, .t 117], (some (108, true))⟩,
      ⟨(some 119), (.pure (.bin .lss)), [.t 118, .c (.int .i64 (Int.ofNat 0))], (some (108, true))⟩,
      ⟨(some 120), (.pure .pick), [.t 108, .t 119, .c (.bool false)], none⟩] false) c49_34) c49_33) c49_32)
def c49_28 : C := (.seq (.block 5 (.seq (.block 6 (.loop (some [0, 1, 4, 12, 13]) c49_31)) c49_30)) c49_29)
def c49_26 : C := (.seq (.block 4 (.loop (some [0, 1, 4, 12, 13]) c49_28)) c49_27)
def c49_25 : C := (.seq (.region [
      ⟨(some 103), (.pure .mov), [.t 13], none⟩,
      ⟨(some 104), (.pure (.bin .sub)), [.t 103, .c (.int .i64 (Int.ofNat 1))], none⟩,
      ⟨(some 13), (.pure .mov), [.t 104], none⟩] false) c49_26)
def c49_24 : C := (.seq (.region [
      ⟨(some 101), (.pure .mov), [.t 12], none⟩,
      ⟨(some 102), (.pure (.bin .add)), [.t 101, .c (.int .i64 (Int.ofNat 1))], none⟩,
      ⟨(some 12), (.pure .mov), [.t 102], none⟩] false) c49_25)
def c49_19 : C := (.seq (.region [
      ⟨(some 87), (.pure .mov), [.t 0], none⟩,
      ⟨(some 88), (.pure .mov), [.t 12], none⟩,
      ⟨(some 89), (.pure .mov), [.t 0], none⟩,
      ⟨(some 90), (.pure .mov), [.t 13], none⟩,
      ⟨(some 91), (.pure .mov), [.t 0], none⟩,
      ⟨(some 92), (.pure .mov), [.t 13], none⟩,
      ⟨(some 93), (.pure (.iaddS 2)), [.t 91, .t 92], none⟩,
      ⟨(some 94), (.read (.load 2 true) []), [.t 93], none⟩,
      ⟨(some 95), (.pure .mov), [.t 0], none⟩,
      ⟨(some 96), (.pure .mov), [.t 12], none⟩,
      ⟨(some 97), (.pure (.iaddS 2)), [.t 95, .t 96], none⟩,
      ⟨(some 98), (.read (.load 2 true) []), [.t 97], none⟩,
      ⟨(some 99), (.pure (.iaddS 2)), [.t 87, .t 88], none⟩,
      ⟨none, (.eff (.store 2)), [.t 99, .t 94], none⟩,
      ⟨(some 100), (.pure (.iaddS 2)), [.t 89, .t 90], none⟩,
      ⟨none, (.eff (.store 2)), [.t 100, .t 98], none⟩] false) c49_24)
def c49_23 : C := .ret
def c49_22 : C := (.keep [10, 11] c49_23)
def c49_21 : C := (.seq (.region [
      ⟨(some 86), (.pure .mov), [.t 13], none⟩,
      ⟨(some 10), (.pure .mov), [.t 86], none⟩,
      ⟨(some 11), (.pure .mov), [.c (.bool true)], none⟩] false) c49_22)
def c49_20 : C := (.cond (.t 71) (.seq (.region [
      ⟨(some 72), (.pure .mov), [.t 0], none⟩,
      ⟨(some 73), (.pure .mov), [.t 13], none⟩,
      ⟨(some 74), (.pure .mov), [.t 0], none⟩,
      ⟨(some 75), (.pure .mov), [.t 1], none⟩,
      ⟨(some 76), (.pure .mov), [.t 0], none⟩,
      ⟨(some 77), (.pure .mov), [.t 1], none⟩,
      ⟨(some 78), (.pure (.iaddS 2)), [.t 76, .t 77], none⟩,
      ⟨(some 79), (.read (.load 2 true) []), [.t 78], none⟩,
      ⟨(some 80), (.pure .mov), [.t 0], none⟩,
      ⟨(some 81), (.pure .mov), [.t 13], none⟩,
      ⟨(some 82), (.pure (.iaddS 2)), [.t 80, .t 81], none⟩,
      ⟨(some 83), (.read (.load 2 true) []), [.t 82], none⟩,
      ⟨(some 84), (.pure (.iaddS 2)), [.t 72, .t 73], none⟩,
      ⟨none, (.eff (.store 2)), [.t 84, .t 79], none⟩,
      ⟨(some 85), (.pure (.iaddS 2)), [.t 74, .t 75], none⟩,
      ⟨none, (.eff (.store 2)), [.t 85, .t 83], none⟩] false) c49_21)
    .skip)
def c49_18 : C := (.seq (.seq (.region [
      ⟨(some 69), (.pure .mov), [.t 12], none⟩,
      ⟨(some 70), (.pure .mov), [.t 13], none⟩,
      ⟨(some 71), (.pure (.bin .gtr)), [.t 69, .t 70], none⟩] false) c49_20) c49_19)
def c49_11 : C := (.keep [0, 1, 4, 12, 13] c49_18)
def c49_17 : C := .skip
def c49_13 : C := (.keep [0, 1, 4, 12, 13] c49_17)
def c49_14 : C := (.block 3 (.region [
      ⟨(some 67), (.pure .mov), [.t 13], none⟩,
      ⟨(some 68), (.pure (.bin .sub)), [.t 67, .c (.int .i64 (Int.ofNat 1))], none⟩,
      ⟨(some 13), (.pure .mov), [.t 68], none⟩] false))
def c49_16 : C := (.exit 2)
def c49_15 : C := (.cond (.t 66) .skip
    (.keep [0, 1, 4, 12, 13] c49_16))
def c49_12 : C := (.seq (.seq (.seq (.region [
      ⟨(some 50), (.pure .mov), [.t 12], none⟩,
      ⟨(some 51), (.pure .mov), [.t 13], none⟩,
      ⟨(some 52), (.pure (.bin .leq)), [.t 50, .t 51], none⟩,
      ⟨(some 53), (.pure .mov), [.t 52], none⟩,
      ⟨(some 54), (.pure .mov), [.t 4], (some (53, true))⟩,
      ⟨(some 55), (.pure .mov), [.t 0], (some (53, true))⟩,
      ⟨(some 56), (.pure .mov), [.t 13], (some (53, true))⟩,
      ⟨(some 57), (.pure (.iaddS 2)), [.t 55, .t 56], (some (53, true))⟩,
      ⟨(some 58), (.read (.load 2 true) []), [.t 57], (some (53, true))⟩,
      ⟨(some 59), (.pure .mov), [.t 0], (some (53, true))⟩,
      ⟨(some 60), (.pure .mov), [.t 1], (some (53, true))⟩,
      ⟨(some 61), (.pure (.iaddS 2)), [.t 59, .t 60], (some (53, true))⟩,
      ⟨(some 62), (.read (.load 2 true) []), [.t 61], (some (53, true))⟩,
      ⟨(some 63), .callv, [.t 54, .t 58, .t 62], (some (53, true))⟩,
      ⟨(some 64), (.pure (.bin .lss)), [.t 63, .c (.int .i64 (Int.ofNat 0))], (some (53, true))⟩,
      ⟨(some 65), (.pure (.un .not)), [.t 64], (some (53, true))⟩,
      ⟨(some 66), (.pure .pick), [.t 53, .t 65, .c (.bool false)], none⟩] false) c49_15) c49_14) c49_13)
def c49_10 : C := (.seq (.block 2 (.loop (some [0, 1, 4, 12, 13]) c49_12)) c49_11)
def c49_3 : C := (.keep [0, 1, 4, 12, 13] c49_10)
def c49_9 : C := .skip
def c49_5 : C := (.keep [0, 1, 4, 12, 13] c49_9)
def c49_6 : C := (.block 1 (.region [
      ⟨(some 48), (.pure .mov), [.t 12], none⟩,
      ⟨(some 49), (.pure (.bin .add)), [.t 48, .c (.int .i64 (Int.ofNat 1))], none⟩,
      ⟨(some 12), (.pure .mov), [.t 49], none⟩] false))
def c49_8 : C := (.exit 0)
def c49_7 : C := (.cond (.t 47) .skip
    (.keep [0, 1, 4, 12, 13] c49_8))
def c49_4 : C := (.seq (.seq (.seq (.region [
      ⟨(some 32), (.pure .mov), [.t 12], none⟩,
      ⟨(some 33), (.pure .mov), [.t 13], none⟩,
      ⟨(some 34), (.pure (.bin .leq)), [.t 32, .t 33], none⟩,
      ⟨(some 35), (.pure .mov), [.t 34], none⟩,
      ⟨(some 36), (.pure .mov), [.t 4], (some (35, true))⟩,
      ⟨(some 37), (.pure .mov), [.t 0], (some (35, true))⟩,
      ⟨(some 38), (.pure .mov), [.t 12], (some (35, true))⟩,
      ⟨(some 39), (.pure (.iaddS 2)), [.t 37, .t 38], (some (35, true))⟩,
      ⟨(some 40), (.read (.load 2 true) []), [.t 39], (some (35, true))⟩,
      ⟨(some 41), (.pure .mov), [.t 0], (some (35, true))⟩,
      ⟨(some 42), (.pure .mov), [.t 1], (some (35, true))⟩,
      ⟨(some 43), (.pure (.iaddS 2)), [.t 41, .t 42], (some (35, true))⟩,
      ⟨(some 44), (.read (.load 2 true) []), [.t 43], (some (35, true))⟩,
      ⟨(some 45), .callv, [.t 36, .t 40, .t 44], (some (35, true))⟩,
      ⟨(some 46), (.pure (.bin .lss)), [.t 45, .c (.int .i64 (Int.ofNat 0))], (some (35, true))⟩,
      ⟨(some 47), (.pure .pick), [.t 35, .t 46, .c (.bool false)], none⟩] false) c49_7) c49_6) c49_5)
def c49_2 : C := (.seq (.block 0 (.loop (some [0, 1, 4, 12, 13]) c49_4)) c49_3)
def c49_1 : C := (.seq (.region [
      ⟨(some 28), (.pure .mov), [.t 1], none⟩,
      ⟨(some 29), (.pure (.bin .add)), [.t 28, .c (.int .i64 (Int.ofNat 1))], none⟩,
      ⟨(some 30), (.pure .mov), [.t 2], none⟩,
      ⟨(some 31), (.pure (.bin .sub)), [.t 30, .c (.int .i64 (Int.ofNat 1))], none⟩,
      ⟨(some 12), (.pure .mov), [.t 29], none⟩,
      ⟨(some 13), (.pure .mov), [.t 31], none⟩] false) c49_2)
def c49_0 : C := (.seq (.region [
      ⟨(some 14), (.pure .mov), [.t 0], none⟩,
      ⟨(some 15), (.pure .mov), [.t 1], none⟩,
      ⟨(some 16), (.pure .mov), [.t 0], none⟩,
      ⟨(some 17), (.pure .mov), [.t 3], none⟩,
      ⟨(some 18), (.pure .mov), [.t 0], none⟩,
      ⟨(some 19), (.pure .mov), [.t 3], none⟩,
      ⟨(some 20), (.pure (.iaddS 2)), [.t 18, .t 19], none⟩,
      ⟨(some 21), (.read (.load 2 true) []), [.t 20], none⟩,
      ⟨(some 22), (.pure .mov), [.t 0], none⟩,
      ⟨(some 23), (.pure .mov), [.t 1], none⟩,
      ⟨(some 24), (.pure (.iaddS 2)), [.t 22, .t 23], none⟩,
      ⟨(some 25), (.read (.load 2 true) []), [.t 24], none⟩,
      ⟨(some 26), (.pure (.iaddS 2)), [.t 14, .t 15], none⟩,
      ⟨none, (.eff (.store 2)), [.t 26, .t 21], none⟩,
      ⟨(some 27), (.pure (.iaddS 2)), [.t 16, .t 17], none⟩,
      ⟨none, (.eff (.store 2)), [.t 27, .t 25], none⟩] false) c49_1)
def k49 : DFn := ⟨178, (.seq (.region [
      ⟨(some 10), (.pure .mov), [.c (.int .i64 (Int.ofNat 0))], none⟩,
      ⟨(some 11), (.pure .mov), [.c (.bool false)], none⟩] false) c49_0), [.tmp 10, .tmp 11]⟩
theorem c49 : (match Tryd.prog.funcs[49]? with | some fn => compileFn Tryd.prog 1 [none, none, none, some [0, 1, 4, 12, 13], some [0, 1, 4, 12, 13], none, none, some [0, 1, 4, 12, 13], some [0, 1, 4, 12, 13], some [0, 1, 4, 12, 13], none, none, some [0, 1, 4, 12, 13], none, none, none, none, some [10, 11], none, none, none, some [0, 1, 13], some [0, 1, 4, 12, 13], some [0, 1, 4, 12, 13], some [0, 1, 4, 12, 13], none, none, some [0, 1, 4, 12, 13], some [0, 1, 4, 12, 13], some [0, 1, 4, 12, 13], none, none, some [0, 1, 4, 12, 13], none, none, some [0, 1, 13], none, none, none, none, some [10, 11]] fn | none => none) = some k49 := by kernel_rfl
def q49_0 (tb : Nat → Option DFn) (nv : CallF) (Q : Value → Heap → Prop) : Kont := kSeq (fun wf H => wC tb nv c49_3 wf H (kFn [.tmp 10, .tmp 11] Q)) (kFn [.tmp 10, .tmp 11] Q)
def q49_1 (tb : Nat → Option DFn) (nv : CallF) (Q : Value → Heap → Prop) : Kont := kBlk 0 (q49_0 tb nv Q)
def q49_2 (tb : Nat → Option DFn) (nv : CallF) (Q : Value → Heap → Prop) : Kont := kSeq (fun wf H => wC tb nv c49_11 wf H (kFn [.tmp 10, .tmp 11] Q)) (kFn [.tmp 10, .tmp 11] Q)
def q49_3 (tb : Nat → Option DFn) (nv : CallF) (Q : Value → Heap → Prop) : Kont := kBlk 2 (q49_2 tb nv Q)
def q49_4 (tb : Nat → Option DFn) (nv : CallF) (Q : Value → Heap → Prop) : Kont := kSeq (fun wf H => wC tb nv c49_27 wf H (kFn [.tmp 10, .tmp 11] Q)) (kFn [.tmp 10, .tmp 11] Q)
def q49_5 (tb : Nat → Option DFn) (nv : CallF) (Q : Value → Heap → Prop) : Kont := kBlk 4 (q49_4 tb nv Q)
def q49_6 (tb : Nat → Option DFn) (nv : CallF) (K : Kont) : Kont := kSeq (fun wf H => wC tb nv c49_29 wf H K) K
def q49_7 (tb : Nat → Option DFn) (nv : CallF) (K : Kont) : Kont := kBlk 5 (q49_6 tb nv K)
def q49_8 (tb : Nat → Option DFn) (nv : CallF) (K : Kont) : Kont := kSeq (fun wf H => wC tb nv c49_30 wf H (q49_7 tb nv K)) (q49_7 tb nv K)
def q49_9 (tb : Nat → Option DFn) (nv : CallF) (K : Kont) : Kont := kBlk 6 (q49_8 tb nv K)
def q49_10 (tb : Nat → Option DFn) (nv : CallF) (K : Kont) : Kont := kSeq (fun wf H => wC tb nv c49_38 wf H (q49_7 tb nv K)) (q49_7 tb nv K)
def q49_11 (tb : Nat → Option DFn) (nv : CallF) (K : Kont) : Kont := kBlk 8 (q49_10 tb nv K)
def w49_10 (tb : Nat → Option DFn) (nv : CallF) (t0 t1 t4 t12 t13 : Value) (H : Heap) (Q : Value → Heap → Prop) : Prop := wC tb nv c49_10 (mkW [(0, t0), (1, t1), (4, t4), (12, t12), (13, t13)]) H (kFn [.tmp 10, .tmp 11] Q)
def w49_18 (tb : Nat → Option DFn) (nv : CallF) (t0 t1 t4 t12 t13 : Value) (H : Heap) (Q : Value → Heap → Prop) : Prop := wC tb nv c49_18 (mkW [(0, t0), (1, t1), (4, t4), (12, t12), (13, t13)]) H (kFn [.tmp 10, .tmp 11] Q)
def w49_37 (tb : Nat → Option DFn) (nv : CallF) (t0 t1 t4 t12 t13 : Value) (H : Heap) (K : Kont) : Prop := wC tb nv c49_37 (mkW [(0, t0), (1, t1), (4, t4), (12, t12), (13, t13)]) H (q49_7 tb nv K)
def w49_45 (tb : Nat → Option DFn) (nv : CallF) (t0 t1 t4 t12 t13 : Value) (H : Heap) (K : Kont) : Prop := wC tb nv c49_45 (mkW [(0, t0), (1, t1), (4, t4), (12, t12), (13, t13)]) H (q49_7 tb nv K)
theorem e49 (tb : Nat → Option DFn) (nv : CallF) (a0 a1 a2 a3 a4 : Value) (H : Heap) (Q : Value → Heap → Prop) : wFn tb nv k49 [a0, a1, a2, a3, a4] H Q = (
    wP (.iaddS 2) [a0, a3] fun x0 =>
    wR (.load 2 true) [x0] H fun x1 =>
    wP (.iaddS 2) [a0, a1] fun x2 =>
    wR (.load 2 true) [x2] H fun x3 =>
    wP (.iaddS 2) [a0, a1] fun x4 =>
    wE (.store 2) [x4, x1] H fun x5 H6 =>
    wP (.iaddS 2) [a0, a3] fun x7 =>
    wE (.store 2) [x7, x3] H6 fun x8 H9 =>
    wP (.bin .add) [a1, (.int .i64 1)] fun x10 =>
    wP (.bin .sub) [a2, (.int .i64 1)] fun x11 =>
    wLoop tb nv c49_4 [0, 1, 4, 12, 13] (mkW [(0, a0), (1, a1), (4, a4), (12, x10), (13, x11)]) H9 (q49_1 tb nv Q)) := by kernel_rfl
theorem l49_4 (tb : Nat → Option DFn) (nv : CallF) (t0 t1 t4 t12 t13 : Value) (H : Heap) (K : Kont) : wC tb nv c49_4 (mkW [(0, t0), (1, t1), (4, t4), (12, t12), (13, t13)]) H K = (
    wP (.bin .leq) [t12, t13] fun x12 =>
    asB x12 fun b13 => onB b13 (wP (.iaddS 2) [t0, t12] fun x14 =>
    wR (.load 2 true) [x14] H fun x15 =>
    wP (.iaddS 2) [t0, t1] fun x16 =>
    wR (.load 2 true) [x16] H fun x17 =>
    wIns (Ev tb nv) .callv [t4, x15, x17] H fun x18 H19 =>
    wP (.bin .lss) [x18, (.int .i64 0)] fun x20 =>
    asB x20 fun b21 => onB b21 (wP (.bin .add) [t12, (.int .i64 1)] fun x22 =>
    atK (K .normal (mkW [(0, t0), (1, t1), (4, t4), (12, x22), (13, t13)]) H19))
    (atK (K (.exit 0) (mkW [(0, t0), (1, t1), (4, t4), (12, t12), (13, t13)]) H19)))
    (atK (K (.exit 0) (mkW [(0, t0), (1, t1), (4, t4), (12, t12), (13, t13)]) H))) := by kernel_rfl
theorem x49_4_0 (tb : Nat → Option DFn) (nv : CallF) (t0 t1 t4 t12 t13 : Value) (H : Heap) (Q : Value → Heap → Prop) : (q49_1 tb nv Q) (.exit 0) (mkW [(0, t0), (1, t1), (4, t4), (12, t12), (13, t13)]) H = (
    atK (w49_10 tb nv t0 t1 t4 t12 t13 H Q)) := by kernel_rfl
theorem e49_10 (tb : Nat → Option DFn) (nv : CallF) (t0 t1 t4 t12 t13 : Value) (H : Heap) (Q : Value → Heap → Prop) : w49_10 tb nv t0 t1 t4 t12 t13 H Q = (
    wLoop tb nv c49_12 [0, 1, 4, 12, 13] (mkW [(0, t0), (1, t1), (4, t4), (12, t12), (13, t13)]) H (q49_3 tb nv Q)) := by kernel_rfl
theorem l49_12 (tb : Nat → Option DFn) (nv : CallF) (t0 t1 t4 t12 t13 : Value) (H : Heap) (K : Kont) : wC tb nv c49_12 (mkW [(0, t0), (1, t1), (4, t4), (12, t12), (13, t13)]) H K = (
    wP (.bin .leq) [t12, t13] fun x23 =>
    asB x23 fun b24 => onB b24 (wP (.iaddS 2) [t0, t13] fun x25 =>
    wR (.load 2 true) [x25] H fun x26 =>
    wP (.iaddS 2) [t0, t1] fun x27 =>
    wR (.load 2 true) [x27] H fun x28 =>
    wIns (Ev tb nv) .callv [t4, x26, x28] H fun x29 H30 =>
    wP (.bin .lss) [x29, (.int .i64 0)] fun x31 =>
    wP (.un .not) [x31] fun x32 =>
    asB x32 fun b33 => onB b33 (wP (.bin .sub) [t13, (.int .i64 1)] fun x34 =>
    atK (K .normal (mkW [(0, t0), (1, t1), (4, t4), (12, t12), (13, x34)]) H30))
    (atK (K (.exit 2) (mkW [(0, t0), (1, t1), (4, t4), (12, t12), (13, t13)]) H30)))
    (atK (K (.exit 2) (mkW [(0, t0), (1, t1), (4, t4), (12, t12), (13, t13)]) H))) := by kernel_rfl
theorem x49_12_0 (tb : Nat → Option DFn) (nv : CallF) (t0 t1 t4 t12 t13 : Value) (H : Heap) (Q : Value → Heap → Prop) : (q49_3 tb nv Q) (.exit 2) (mkW [(0, t0), (1, t1), (4, t4), (12, t12), (13, t13)]) H = (
    atK (w49_18 tb nv t0 t1 t4 t12 t13 H Q)) := by kernel_rfl
theorem e49_18 (tb : Nat → Option DFn) (nv : CallF) (t0 t1 t4 t12 t13 : Value) (H : Heap) (Q : Value → Heap → Prop) : w49_18 tb nv t0 t1 t4 t12 t13 H Q = (
    wP (.bin .gtr) [t12, t13] fun x35 =>
    asB x35 fun b36 => onB b36 (wP (.iaddS 2) [t0, t1] fun x37 =>
    wR (.load 2 true) [x37] H fun x38 =>
    wP (.iaddS 2) [t0, t13] fun x39 =>
    wR (.load 2 true) [x39] H fun x40 =>
    wP (.iaddS 2) [t0, t13] fun x41 =>
    wE (.store 2) [x41, x38] H fun x42 H43 =>
    wP (.iaddS 2) [t0, t1] fun x44 =>
    wE (.store 2) [x44, x40] H43 fun x45 H46 =>
    atK (Q (.tuple ⟨[t13, (.bool true)]⟩) H46))
    (wP (.iaddS 2) [t0, t13] fun x47 =>
    wR (.load 2 true) [x47] H fun x48 =>
    wP (.iaddS 2) [t0, t12] fun x49 =>
    wR (.load 2 true) [x49] H fun x50 =>
    wP (.iaddS 2) [t0, t12] fun x51 =>
    wE (.store 2) [x51, x48] H fun x52 H53 =>
    wP (.iaddS 2) [t0, t13] fun x54 =>
    wE (.store 2) [x54, x50] H53 fun x55 H56 =>
    wP (.bin .add) [t12, (.int .i64 1)] fun x57 =>
    wP (.bin .sub) [t13, (.int .i64 1)] fun x58 =>
    wLoop tb nv c49_28 [0, 1, 4, 12, 13] (mkW [(0, t0), (1, t1), (4, t4), (12, x57), (13, x58)]) H56 (q49_5 tb nv Q))) := by kernel_rfl
theorem l49_28 (tb : Nat → Option DFn) (nv : CallF) (t0 t1 t4 t12 t13 : Value) (H : Heap) (K : Kont) : wC tb nv c49_28 (mkW [(0, t0), (1, t1), (4, t4), (12, t12), (13, t13)]) H K = (
    wLoop tb nv c49_31 [0, 1, 4, 12, 13] (mkW [(0, t0), (1, t1), (4, t4), (12, t12), (13, t13)]) H (q49_9 tb nv K)) := by kernel_rfl
theorem l49_31 (tb : Nat → Option DFn) (nv : CallF) (t0 t1 t4 t12 t13 : Value) (H : Heap) (K : Kont) : wC tb nv c49_31 (mkW [(0, t0), (1, t1), (4, t4), (12, t12), (13, t13)]) H K = (
    wP (.bin .leq) [t12, t13] fun x59 =>
    asB x59 fun b60 => onB b60 (wP (.iaddS 2) [t0, t12] fun x61 =>
    wR (.load 2 true) [x61] H fun x62 =>
    wP (.iaddS 2) [t0, t1] fun x63 =>
    wR (.load 2 true) [x63] H fun x64 =>
    wIns (Ev tb nv) .callv [t4, x62, x64] H fun x65 H66 =>
    wP (.bin .lss) [x65, (.int .i64 0)] fun x67 =>
    asB x67 fun b68 => onB b68 (wP (.bin .add) [t12, (.int .i64 1)] fun x69 =>
    atK (K .normal (mkW [(0, t0), (1, t1), (4, t4), (12, x69), (13, t13)]) H66))
    (atK (K (.exit 6) (mkW [(0, t0), (1, t1), (4, t4), (12, t12), (13, t13)]) H66)))
    (atK (K (.exit 6) (mkW [(0, t0), (1, t1), (4, t4), (12, t12), (13, t13)]) H))) := by kernel_rfl
theorem x49_31_0 (tb : Nat → Option DFn) (nv : CallF) (t0 t1 t4 t12 t13 : Value) (H : Heap) (K : Kont) : (q49_9 tb nv K) (.exit 6) (mkW [(0, t0), (1, t1), (4, t4), (12, t12), (13, t13)]) H = (
    atK (w49_37 tb nv t0 t1 t4 t12 t13 H K)) := by kernel_rfl
theorem e49_37 (tb : Nat → Option DFn) (nv : CallF) (t0 t1 t4 t12 t13 : Value) (H : Heap) (K : Kont) : w49_37 tb nv t0 t1 t4 t12 t13 H K = (
    wLoop tb nv c49_39 [0, 1, 4, 12, 13] (mkW [(0, t0), (1, t1), (4, t4), (12, t12), (13, t13)]) H (q49_11 tb nv K)) := by kernel_rfl
theorem l49_39 (tb : Nat → Option DFn) (nv : CallF) (t0 t1 t4 t12 t13 : Value) (H : Heap) (K : Kont) : wC tb nv c49_39 (mkW [(0, t0), (1, t1), (4, t4), (12, t12), (13, t13)]) H K = (
    wP (.bin .leq) [t12, t13] fun x70 =>
    asB x70 fun b71 => onB b71 (wP (.iaddS 2) [t0, t13] fun x72 =>
    wR (.load 2 true) [x72] H fun x73 =>
    wP (.iaddS 2) [t0, t1] fun x74 =>
    wR (.load 2 true) [x74] H fun x75 =>
    wIns (Ev tb nv) .callv [t4, x73, x75] H fun x76 H77 =>
    wP (.bin .lss) [x76, (.int .i64 0)] fun x78 =>
    wP (.un .not) [x78] fun x79 =>
    asB x79 fun b80 => onB b80 (wP (.bin .sub) [t13, (.int .i64 1)] fun x81 =>
    atK (K .normal (mkW [(0, t0), (1, t1), (4, t4), (12, t12), (13, x81)]) H77))
    (atK (K (.exit 8) (mkW [(0, t0), (1, t1), (4, t4), (12, t12), (13, t13)]) H77)))
    (atK (K (.exit 8) (mkW [(0, t0), (1, t1), (4, t4), (12, t12), (13, t13)]) H))) := by kernel_rfl
theorem x49_39_0 (tb : Nat → Option DFn) (nv : CallF) (t0 t1 t4 t12 t13 : Value) (H : Heap) (K : Kont) : (q49_11 tb nv K) (.exit 8) (mkW [(0, t0), (1, t1), (4, t4), (12, t12), (13, t13)]) H = (
    atK (w49_45 tb nv t0 t1 t4 t12 t13 H K)) := by kernel_rfl
theorem e49_45 (tb : Nat → Option DFn) (nv : CallF) (t0 t1 t4 t12 t13 : Value) (H : Heap) (K : Kont) : w49_45 tb nv t0 t1 t4 t12 t13 H K = (
    wP (.bin .gtr) [t12, t13] fun x82 =>
    asB x82 fun b83 => onB b83 (atK (K (.exit 4) (mkW [(0, t0), (1, t1), (13, t13)]) H))
    (wP (.iaddS 2) [t0, t13] fun x84 =>
    wR (.load 2 true) [x84] H fun x85 =>
    wP (.iaddS 2) [t0, t12] fun x86 =>
    wR (.load 2 true) [x86] H fun x87 =>
    wP (.iaddS 2) [t0, t12] fun x88 =>
    wE (.store 2) [x88, x85] H fun x89 H90 =>
    wP (.iaddS 2) [t0, t13] fun x91 =>
    wE (.store 2) [x91, x87] H90 fun x92 H93 =>
    wP (.bin .add) [t12, (.int .i64 1)] fun x94 =>
    wP (.bin .sub) [t13, (.int .i64 1)] fun x95 =>
    atK (K .normal (mkW [(0, t0), (1, t1), (4, t4), (12, x94), (13, x95)]) H93))) := by kernel_rfl

end Go.Proofs.YtedeopeegicnbaaDoor.D
