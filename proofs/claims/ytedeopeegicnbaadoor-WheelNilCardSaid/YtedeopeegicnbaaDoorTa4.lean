/- The compiled functions of the seat, as the machine "D" runs them, and what each comes to (written by a program). No statement of the seat is proved in this text. -/
import Derived.Test.YtedeopeegicnbaaDoorDz
import Derived.Test.YtedeopeegicnbaaDoorProg
set_option maxRecDepth 100000
set_option linter.unusedVariables false
namespace Go.Proofs.YtedeopeegicnbaaDoor.D
open Go
/-- cmp.Or[int] -/
def c34_17 : C := .ret
def c34_16 : C := (.keep [2] c34_17)
def c34_15 : C := (.seq (.region [
      ⟨(some 17), (.pure .mov), [.t 3], none⟩,
      ⟨(some 2), (.pure .mov), [.t 17], none⟩] false) c34_16)
def c34_2 : C := (.keep [3] c34_15)
def c34_14 : C := .skip
def c34_5 : C := (.keep [3, 6, 7, 8] c34_14)
def c34_9 : C := (.region [
      ⟨(some 16), (.pure (.bin .add)), [.t 8, .c (.int .i64 (Int.ofNat 1))], none⟩,
      ⟨(some 8), (.pure .mov), [.t 16], none⟩] false)
def c34_13 : C := .ret
def c34_12 : C := (.keep [2] c34_13)
def c34_11 : C := (.cond (.t 14) (.seq (.region [
      ⟨(some 15), (.pure .mov), [.t 5], none⟩,
      ⟨(some 2), (.pure .mov), [.t 15], none⟩] false) c34_12)
    .skip)
def c34_10 : C := (.seq (.region [
      ⟨(some 12), (.pure .mov), [.t 5], none⟩,
      ⟨(some 13), (.pure .mov), [.t 3], none⟩,
      ⟨(some 14), (.pure (.bin .neq)), [.t 12, .t 13], none⟩] false) c34_11)
def c34_7 : C := (.seq (.block 1 (.seq (.region [
      ⟨(some 10), (.pure (.iaddS 1)), [.t 6, .t 8], none⟩,
      ⟨(some 11), (.read (.load 1 false) []), [.t 10], none⟩,
      ⟨(some 5), (.pure .mov), [.t 11], none⟩] false) c34_10)) c34_9)
def c34_8 : C := (.exit 0)
def c34_6 : C := (.seq (.cond (.t 9) .skip
    (.keep [3] c34_8)) c34_7)
def c34_4 : C := (.seq (.seq (.region [
      ⟨(some 9), (.pure (.bin .lss)), [.t 8, .t 7], none⟩] false) c34_6) c34_5)
def c34_3 : C := (.block 0 (.loop (some [3, 6, 7, 8]) c34_4))
def c34_1 : C := (.seq (.seq (.region [
      ⟨(some 6), (.pure .mov), [.t 0], none⟩,
      ⟨(some 7), (.pure .lenS), [.t 6], none⟩,
      ⟨(some 8), (.pure .mov), [.c (.int .i64 (Int.ofNat 0))], none⟩] false) c34_3) c34_2)
def c34_0 : C := (.seq (.region [
      ⟨(some 3), (.pure .mov), [.c (.int .i64 (Int.ofNat 0))], none⟩] false) c34_1)
def k34 : DFn := ⟨18, (.seq (.region [
      ⟨(some 2), (.pure .mov), [.c (.int .i64 (Int.ofNat 0))], none⟩] false) c34_0), [.tmp 2]⟩
theorem c34 : (match Tryd.prog.funcs[34]? with | some fn => compileFn Tryd.prog 1 [none, none, some [3], none, some [3, 6, 7, 8], none, none, some [3], none, none, none, none, some [2], none, some [2]] fn | none => none) = some k34 := by kernel_rfl
def q34_0 (tb : Nat → Option DFn) (nv : CallF) (Q : Value → Heap → Prop) : Kont := kSeq (fun wf H => wC tb nv c34_2 wf H (kFn [.tmp 2] Q)) (kFn [.tmp 2] Q)
def q34_1 (tb : Nat → Option DFn) (nv : CallF) (Q : Value → Heap → Prop) : Kont := kBlk 0 (q34_0 tb nv Q)
def w34_15 (tb : Nat → Option DFn) (nv : CallF) (t3 : Value) (H : Heap) (Q : Value → Heap → Prop) : Prop := wC tb nv c34_15 (mkW [(3, t3)]) H (kFn [.tmp 2] Q)
theorem e34 (tb : Nat → Option DFn) (nv : CallF) (a0 : Value) (H : Heap) (Q : Value → Heap → Prop) : wFn tb nv k34 [a0] H Q = (
    wP .lenS [a0] fun x0 =>
    wLoop tb nv c34_4 [3, 6, 7, 8] (mkW [(3, (.int .i64 0)), (6, a0), (7, x0), (8, (.int .i64 0))]) H (q34_1 tb nv Q)) := by kernel_rfl
theorem l34_4 (tb : Nat → Option DFn) (nv : CallF) (t3 t6 t7 t8 : Value) (H : Heap) (K : Kont) : wC tb nv c34_4 (mkW [(3, t3), (6, t6), (7, t7), (8, t8)]) H K = (
    wP (.bin .lss) [t8, t7] fun x1 =>
    asB x1 fun b2 => onB b2 (wP (.iaddS 1) [t6, t8] fun x3 =>
    wR (.load 1 false) [x3] H fun x4 =>
    wP (.bin .neq) [x4, t3] fun x5 =>
    asB x5 fun b6 => onB b6 (atK (K .ret (mkW [(2, x4)]) H))
    (wP (.bin .add) [t8, (.int .i64 1)] fun x7 =>
    atK (K .normal (mkW [(3, t3), (6, t6), (7, t7), (8, x7)]) H)))
    (atK (K (.exit 0) (mkW [(3, t3)]) H))) := by kernel_rfl
theorem x34_4_0 (tb : Nat → Option DFn) (nv : CallF) (t2 : Value) (H : Heap) (Q : Value → Heap → Prop) : (q34_1 tb nv Q) .ret (mkW [(2, t2)]) H = (
    Q t2 H) := by kernel_rfl
theorem x34_4_1 (tb : Nat → Option DFn) (nv : CallF) (t3 : Value) (H : Heap) (Q : Value → Heap → Prop) : (q34_1 tb nv Q) (.exit 0) (mkW [(3, t3)]) H = (
    atK (w34_15 tb nv t3 H Q)) := by kernel_rfl
theorem e34_15 (tb : Nat → Option DFn) (nv : CallF) (t3 : Value) (H : Heap) (Q : Value → Heap → Prop) : w34_15 tb nv t3 H Q = (
    atK (Q t3 H)) := by kernel_rfl

/-- cmp.Compare[int] -/
def c35_24 : C := .ret
def c35_23 : C := (.keep [4] c35_24)
def c35_19 : C := (.seq (.region [
      ⟨(some 4), (.pure .mov), [.c (.int .i64 (Int.ofNat 0))], none⟩] false) c35_23)
def c35_22 : C := .ret
def c35_21 : C := (.keep [4] c35_22)
def c35_20 : C := (.cond (.t 19) (.seq (.region [
      ⟨(some 4), (.pure .mov), [.c (.int .i64 (Int.ofNat 1))], none⟩] false) c35_21)
    .skip)
def c35_15 : C := (.seq (.seq (.region [
      ⟨(some 17), (.pure .mov), [.t 0], none⟩,
      ⟨(some 18), (.pure .mov), [.t 1], none⟩,
      ⟨(some 19), (.pure (.bin .gtr)), [.t 17, .t 18], none⟩] false) c35_20) c35_19)
def c35_18 : C := .ret
def c35_17 : C := (.keep [4] c35_18)
def c35_16 : C := (.cond (.t 16) (.seq (.region [
      ⟨(some 4), (.pure .mov), [.c (.int .i64 (Int.negSucc 0))], none⟩] false) c35_17)
    .skip)
def c35_11 : C := (.seq (.seq (.region [
      ⟨(some 14), (.pure .mov), [.t 0], none⟩,
      ⟨(some 15), (.pure .mov), [.t 1], none⟩,
      ⟨(some 16), (.pure (.bin .lss)), [.t 14, .t 15], none⟩] false) c35_16) c35_15)
def c35_14 : C := .ret
def c35_13 : C := (.keep [4] c35_14)
def c35_12 : C := (.cond (.t 13) (.seq (.region [
      ⟨(some 4), (.pure .mov), [.c (.int .i64 (Int.ofNat 1))], none⟩] false) c35_13)
    .skip)
def c35_3 : C := (.seq (.seq (.region [
      ⟨(some 13), (.pure .mov), [.t 6], none⟩] false) c35_12) c35_11)
def c35_10 : C := .ret
def c35_9 : C := (.keep [4] c35_10)
def c35_5 : C := (.seq (.region [
      ⟨(some 4), (.pure .mov), [.c (.int .i64 (Int.negSucc 0))], none⟩] false) c35_9)
def c35_8 : C := .ret
def c35_7 : C := (.keep [4] c35_8)
def c35_6 : C := (.cond (.t 12) (.seq (.region [
      ⟨(some 4), (.pure .mov), [.c (.int .i64 (Int.ofNat 0))], none⟩] false) c35_7)
    .skip)
def c35_4 : C := (.cond (.t 11) (.seq (.seq (.region [
      ⟨(some 12), (.pure .mov), [.t 6], none⟩] false) c35_6) c35_5)
    .skip)
def c35_2 : C := (.seq (.seq (.region [
      ⟨(some 11), (.pure .mov), [.t 5], none⟩] false) c35_4) c35_3)
def c35_1 : C := (.seq (.region [
      ⟨(some 9), (.pure .mov), [.t 1], none⟩,
      ⟨(some 10), (.call 40), [.t 9], none⟩,
      ⟨(some 6), (.pure .mov), [.t 10], none⟩] false) c35_2)
def c35_0 : C := (.seq (.region [
      ⟨(some 7), (.pure .mov), [.t 0], none⟩,
      ⟨(some 8), (.call 40), [.t 7], none⟩,
      ⟨(some 5), (.pure .mov), [.t 8], none⟩] false) c35_1)
def k35 : DFn := ⟨20, (.seq (.region [
      ⟨(some 4), (.pure .mov), [.c (.int .i64 (Int.ofNat 0))], none⟩] false) c35_0), [.tmp 4]⟩
theorem c35 : (match Tryd.prog.funcs[35]? with | some fn => compileFn Tryd.prog 1 [none, none, none, none, none, none, none, none, some [4], none, some [4], none, none, none, some [4], none, none, none, some [4], none, none, none, some [4], none, some [4]] fn | none => none) = some k35 := by kernel_rfl
theorem e35 (tb : Nat → Option DFn) (nv : CallF) (a0 a1 : Value) (H : Heap) (Q : Value → Heap → Prop) : wFn tb nv k35 [a0, a1] H Q = (
    Ev tb nv 40 [a0] H fun x0 H1 =>
    Ev tb nv 40 [a1] H1 fun x2 H3 =>
    asB x0 fun b4 => onB b4 (asB x2 fun b5 => onB b5 (atK (Q (.int .i64 0) H3))
    (atK (Q (.int .i64 (Int.negSucc 0)) H3)))
    (asB x2 fun b6 => onB b6 (atK (Q (.int .i64 1) H3))
    (wP (.bin .lss) [a0, a1] fun x7 =>
    asB x7 fun b8 => onB b8 (atK (Q (.int .i64 (Int.negSucc 0)) H3))
    (wP (.bin .gtr) [a0, a1] fun x9 =>
    asB x9 fun b10 => onB b10 (atK (Q (.int .i64 1) H3))
    (atK (Q (.int .i64 0) H3)))))) := by kernel_rfl

/-- slices.DeleteFunc[[]int,int] -/
def c36_22 : C := .ret
def c36_21 : C := (.keep [4] c36_22)
def c36_20 : C := (.seq (.region [
      ⟨(some 39), (.pure .mov), [.t 0], none⟩,
      ⟨(some 40), (.pure .mov), [.t 5], none⟩,
      ⟨(some 41), (.pure (.slcS 1 false true false)), [.t 39, .t 40], none⟩,
      ⟨(some 4), (.pure .mov), [.t 41], none⟩] false) c36_21)
def c36_19 : C := (.seq (.region [
      ⟨(some 36), (.pure .mov), [.t 0], none⟩,
      ⟨(some 37), (.pure .mov), [.t 5], none⟩,
      ⟨(some 38), (.pure (.slcS 1 true false false)), [.t 36, .t 37], none⟩,
      ⟨none, (.eff (.clear 1 [(.int .i64 (Int.ofNat 0))])), [.t 38], none⟩] false) c36_20)
def c36_6 : C := (.keep [0, 5] c36_19)
def c36_18 : C := .skip
def c36_9 : C := (.keep [0, 1, 5, 6] c36_18)
def c36_17 : C := (.region [
      ⟨(some 20), (.pure .mov), [.t 6], none⟩,
      ⟨(some 21), (.pure (.bin .add)), [.t 20, .c (.int .i64 (Int.ofNat 1))], none⟩,
      ⟨(some 6), (.pure .mov), [.t 21], none⟩] false)
def c36_13 : C := (.keep [0, 1, 5, 6] c36_17)
def c36_16 : C := (.region [
      ⟨(some 34), (.pure .mov), [.t 5], none⟩,
      ⟨(some 35), (.pure (.bin .add)), [.t 34, .c (.int .i64 (Int.ofNat 1))], none⟩,
      ⟨(some 5), (.pure .mov), [.t 35], none⟩] false)
def c36_15 : C := (.cond (.t 29) (.seq (.region [
      ⟨(some 30), (.pure .mov), [.t 0], none⟩,
      ⟨(some 31), (.pure .mov), [.t 5], none⟩,
      ⟨(some 32), (.pure .mov), [.t 7], none⟩,
      ⟨(some 33), (.pure (.iaddS 1)), [.t 30, .t 31], none⟩,
      ⟨none, (.eff (.store 1)), [.t 33, .t 32], none⟩] false) c36_16)
    .skip)
def c36_14 : C := (.seq (.region [
      ⟨(some 26), (.pure .mov), [.t 1], none⟩,
      ⟨(some 27), (.pure .mov), [.t 7], none⟩,
      ⟨(some 28), .callv, [.t 26, .t 27], none⟩,
      ⟨(some 29), (.pure (.un .not)), [.t 28], none⟩] false) c36_15)
def c36_10 : C := (.seq (.block 1 (.seq (.region [
      ⟨(some 22), (.pure .mov), [.t 0], none⟩,
      ⟨(some 23), (.pure .mov), [.t 6], none⟩,
      ⟨(some 24), (.pure (.iaddS 1)), [.t 22, .t 23], none⟩,
      ⟨(some 25), (.read (.load 1 false) []), [.t 24], none⟩,
      ⟨(some 7), (.pure .mov), [.t 25], none⟩] false) c36_14)) c36_13)
def c36_12 : C := (.exit 0)
def c36_11 : C := (.cond (.t 19) .skip
    (.keep [0, 5] c36_12))
def c36_8 : C := (.seq (.seq (.seq (.region [
      ⟨(some 16), (.pure .mov), [.t 6], none⟩,
      ⟨(some 17), (.pure .mov), [.t 0], none⟩,
      ⟨(some 18), (.pure .lenS), [.t 17], none⟩,
      ⟨(some 19), (.pure (.bin .lss)), [.t 16, .t 18], none⟩] false) c36_11) c36_10) c36_9)
def c36_7 : C := (.block 0 (.loop (some [0, 1, 5, 6]) c36_8))
def c36_2 : C := (.seq (.seq (.region [
      ⟨(some 14), (.pure .mov), [.t 5], none⟩,
      ⟨(some 15), (.pure (.bin .add)), [.t 14, .c (.int .i64 (Int.ofNat 1))], none⟩,
      ⟨(some 6), (.pure .mov), [.t 15], none⟩] false) c36_7) c36_6)
def c36_5 : C := .ret
def c36_4 : C := (.keep [4] c36_5)
def c36_3 : C := (.cond (.t 12) (.seq (.region [
      ⟨(some 13), (.pure .mov), [.t 0], none⟩,
      ⟨(some 4), (.pure .mov), [.t 13], none⟩] false) c36_4)
    .skip)
def c36_1 : C := (.seq (.seq (.region [
      ⟨(some 11), (.pure .mov), [.t 5], none⟩,
      ⟨(some 12), (.pure (.bin .eql)), [.t 11, .c (.int .i64 (Int.negSucc 0))], none⟩] false) c36_3) c36_2)
def c36_0 : C := (.seq (.region [
      ⟨(some 8), (.pure .mov), [.t 0], none⟩,
      ⟨(some 9), (.pure .mov), [.t 1], none⟩,
      ⟨(some 10), (.call 41), [.t 8, .t 9], none⟩,
      ⟨(some 5), (.pure .mov), [.t 10], none⟩] false) c36_1)
def k36 : DFn := ⟨42, (.seq (.region [
      ⟨(some 4), (.pure .mov), [.c (.slice none 0 0)], none⟩] false) c36_0), [.tmp 4]⟩
theorem c36 : (match Tryd.prog.funcs[36]? with | some fn => compileFn Tryd.prog 1 [none, none, none, none, none, some [4], some [0, 5], none, some [0, 1, 5, 6], none, none, some [0, 5], some [0, 1, 5, 6], none, none, none, none, none, some [4]] fn | none => none) = some k36 := by kernel_rfl
def q36_0 (tb : Nat → Option DFn) (nv : CallF) (Q : Value → Heap → Prop) : Kont := kSeq (fun wf H => wC tb nv c36_6 wf H (kFn [.tmp 4] Q)) (kFn [.tmp 4] Q)
def q36_1 (tb : Nat → Option DFn) (nv : CallF) (Q : Value → Heap → Prop) : Kont := kBlk 0 (q36_0 tb nv Q)
def q36_2 (tb : Nat → Option DFn) (nv : CallF) (K : Kont) : Kont := kSeq (fun wf H => wC tb nv c36_9 wf H K) K
def w36_17 (tb : Nat → Option DFn) (nv : CallF) (t0 t1 t5 t6 : Value) (H : Heap) (K : Kont) : Prop := wC tb nv c36_17 (mkW [(0, t0), (1, t1), (5, t5), (6, t6)]) H (q36_2 tb nv K)
def w36_19 (tb : Nat → Option DFn) (nv : CallF) (t0 t5 : Value) (H : Heap) (Q : Value → Heap → Prop) : Prop := wC tb nv c36_19 (mkW [(0, t0), (5, t5)]) H (kFn [.tmp 4] Q)
theorem e36 (tb : Nat → Option DFn) (nv : CallF) (a0 a1 : Value) (H : Heap) (Q : Value → Heap → Prop) : wFn tb nv k36 [a0, a1] H Q = (
    Ev tb nv 41 [a0, a1] H fun x0 H1 =>
    wP (.bin .eql) [x0, (.int .i64 (Int.negSucc 0))] fun x2 =>
    asB x2 fun b3 => onB b3 (atK (Q a0 H1))
    (wP (.bin .add) [x0, (.int .i64 1)] fun x4 =>
    wLoop tb nv c36_8 [0, 1, 5, 6] (mkW [(0, a0), (1, a1), (5, x0), (6, x4)]) H1 (q36_1 tb nv Q))) := by kernel_rfl
theorem l36_8 (tb : Nat → Option DFn) (nv : CallF) (t0 t1 t5 t6 : Value) (H : Heap) (K : Kont) : wC tb nv c36_8 (mkW [(0, t0), (1, t1), (5, t5), (6, t6)]) H K = (
    wP .lenS [t0] fun x5 =>
    wP (.bin .lss) [t6, x5] fun x6 =>
    asB x6 fun b7 => onB b7 (wP (.iaddS 1) [t0, t6] fun x8 =>
    wR (.load 1 false) [x8] H fun x9 =>
    wIns (Ev tb nv) .callv [t1, x9] H fun x10 H11 =>
    wP (.un .not) [x10] fun x12 =>
    asB x12 fun b13 => onB b13 (wP (.iaddS 1) [t0, t5] fun x14 =>
    wE (.store 1) [x14, x9] H11 fun x15 H16 =>
    wP (.bin .add) [t5, (.int .i64 1)] fun x17 =>
    atK (w36_17 tb nv t0 t1 x17 t6 H16 K))
    (atK (w36_17 tb nv t0 t1 t5 t6 H11 K)))
    (atK (K (.exit 0) (mkW [(0, t0), (5, t5)]) H))) := by kernel_rfl
theorem x36_8_0 (tb : Nat → Option DFn) (nv : CallF) (t0 t5 : Value) (H : Heap) (Q : Value → Heap → Prop) : (q36_1 tb nv Q) (.exit 0) (mkW [(0, t0), (5, t5)]) H = (
    atK (w36_19 tb nv t0 t5 H Q)) := by kernel_rfl
theorem e36_17 (tb : Nat → Option DFn) (nv : CallF) (t0 t1 t5 t6 : Value) (H : Heap) (K : Kont) : w36_17 tb nv t0 t1 t5 t6 H K = (
    wP (.bin .add) [t6, (.int .i64 1)] fun x18 =>
    atK (K .normal (mkW [(0, t0), (1, t1), (5, t5), (6, x18)]) H)) := by kernel_rfl
theorem e36_19 (tb : Nat → Option DFn) (nv : CallF) (t0 t5 : Value) (H : Heap) (Q : Value → Heap → Prop) : w36_19 tb nv t0 t5 H Q = (
    wP (.slcS 1 true false false) [t0, t5] fun x19 =>
    wE (.clear 1 [(.int .i64 0)]) [x19] H fun x20 H21 =>
    wP (.slcS 1 false true false) [t0, t5] fun x22 =>
    atK (Q x22 H21)) := by kernel_rfl

/-- tompion/wheel.without$1 -/
def c37_2 : C := .ret
def c37_1 : C := (.keep [3] c37_2)
def c37_0 : C := (.seq (.region [
      ⟨(some 4), (.pure .mov), [.t 0], none⟩,
      ⟨(some 5), (.read (.load 1 false) []), [.t 1], none⟩,
      ⟨(some 6), (.pure (.bin .eql)), [.t 4, .t 5], none⟩,
      ⟨(some 3), (.pure .mov), [.t 6], none⟩] false) c37_1)
def k37 : DFn := ⟨7, (.seq (.region [
      ⟨(some 3), (.pure .mov), [.c (.bool false)], none⟩] false) c37_0), [.tmp 3]⟩
theorem c37 : (match Tryd.prog.funcs[37]? with | some fn => compileFn Tryd.prog 1 [none, none, some [3]] fn | none => none) = some k37 := by kernel_rfl
theorem e37 (tb : Nat → Option DFn) (nv : CallF) (a0 : Value) (H : Heap) (Q : Value → Heap → Prop) : wFn tb nv k37 [a0] H Q = (
    wR (.load 1 false) [undef] H fun x0 =>
    wP (.bin .eql) [a0, x0] fun x1 =>
    atK (Q x1 H)) := by kernel_rfl

/-- slices.pdqsortCmpFunc[[2]int] -/
def c38_42 : C := .skip
def c38_3 : C := (.keep [0, 1, 2, 3, 4, 10, 11] c38_42)
def c38_39 : C := (.region [
      ⟨(some 135), (.pure .mov), [.t 16], none⟩,
      ⟨(some 136), (.pure (.bin .add)), [.t 135, .c (.int .i64 (Int.ofNat 1))], none⟩,
      ⟨(some 1), (.pure .mov), [.t 136], none⟩] false)
def c38_38 : C := (.seq (.region [
      ⟨(some 129), (.pure .mov), [.t 0], none⟩,
      ⟨(some 130), (.pure .mov), [.t 1], none⟩,
      ⟨(some 131), (.pure .mov), [.t 16], none⟩,
      ⟨(some 132), (.pure .mov), [.t 3], none⟩,
      ⟨(some 133), (.pure .mov), [.t 4], none⟩,
      ⟨(some 134), (.call 38), [.t 129, .t 130, .t 131, .t 132, .t 133], none⟩] false) c38_39)
def c38_41 : C := (.region [
      ⟨(some 147), (.pure .mov), [.t 16], none⟩,
      ⟨(some 2), (.pure .mov), [.t 147], none⟩] false)
def c38_40 : C := (.seq (.region [
      ⟨(some 140), (.pure .mov), [.t 0], none⟩,
      ⟨(some 141), (.pure .mov), [.t 16], none⟩,
      ⟨(some 142), (.pure (.bin .add)), [.t 141, .c (.int .i64 (Int.ofNat 1))], none⟩,
      ⟨(some 143), (.pure .mov), [.t 2], none⟩,
      ⟨(some 144), (.pure .mov), [.t 3], none⟩,
      ⟨(some 145), (.pure .mov), [.t 4], none⟩,
      ⟨(some 146), (.call 38), [.t 140, .t 142, .t 143, .t 144, .t 145], none⟩] false) c38_41)
def c38_37 : C := (.cond (.t 125) (.seq (.region [
      ⟨(some 126), (.pure .mov), [.t 18], none⟩,
      ⟨(some 127), (.pure .mov), [.t 20], none⟩,
      ⟨(some 128), (.pure (.bin .geq)), [.t 126, .t 127], none⟩,
      ⟨(some 10), (.pure .mov), [.t 128], none⟩] false) c38_38)
    (.seq (.region [
      ⟨(some 137), (.pure .mov), [.t 19], none⟩,
      ⟨(some 138), (.pure .mov), [.t 20], none⟩,
      ⟨(some 139), (.pure (.bin .geq)), [.t 137, .t 138], none⟩,
      ⟨(some 10), (.pure .mov), [.t 139], none⟩] false) c38_40))
def c38_36 : C := (.seq (.region [
      ⟨(some 123), (.pure .mov), [.t 18], none⟩,
      ⟨(some 124), (.pure .mov), [.t 19], none⟩,
      ⟨(some 125), (.pure (.bin .lss)), [.t 123, .t 124], none⟩] false) c38_37)
def c38_35 : C := (.seq (.region [
      ⟨(some 121), (.pure .mov), [.t 12], none⟩,
      ⟨(some 122), (.pure (.bin .quo)), [.t 121, .c (.int .i64 (Int.ofNat 8))], none⟩,
      ⟨(some 20), (.pure .mov), [.t 122], none⟩] false) c38_36)
def c38_34 : C := (.seq (.region [
      ⟨(some 115), (.pure .mov), [.t 16], none⟩,
      ⟨(some 116), (.pure .mov), [.t 1], none⟩,
      ⟨(some 117), (.pure (.bin .sub)), [.t 115, .t 116], none⟩,
      ⟨(some 118), (.pure .mov), [.t 2], none⟩,
      ⟨(some 119), (.pure .mov), [.t 16], none⟩,
      ⟨(some 120), (.pure (.bin .sub)), [.t 118, .t 119], none⟩,
      ⟨(some 18), (.pure .mov), [.t 117], none⟩,
      ⟨(some 19), (.pure .mov), [.t 120], none⟩] false) c38_35)
def c38_33 : C := (.seq (.region [
      ⟨(some 114), (.pure .mov), [.t 17], none⟩,
      ⟨(some 11), (.pure .mov), [.t 114], none⟩] false) c38_34)
def c38_28 : C := (.seq (.region [
      ⟨(some 106), (.pure .mov), [.t 0], none⟩,
      ⟨(some 107), (.pure .mov), [.t 1], none⟩,
      ⟨(some 108), (.pure .mov), [.t 2], none⟩,
      ⟨(some 109), (.pure .mov), [.t 13], none⟩,
      ⟨(some 110), (.pure .mov), [.t 4], none⟩,
      ⟨(some 111), (.call 49), [.t 106, .t 107, .t 108, .t 109, .t 110], none⟩,
      ⟨(some 105), (.pure .mov), [.t 111], none⟩,
      ⟨(some 112), (.pure (.extract 0)), [.t 105], none⟩,
      ⟨(some 113), (.pure (.extract 1)), [.t 105], none⟩,
      ⟨(some 16), (.pure .mov), [.t 112], none⟩,
      ⟨(some 17), (.pure .mov), [.t 113], none⟩] false) c38_33)
def c38_32 : C := (.exit 1)
def c38_31 : C := (.keep [0, 1, 2, 3, 4, 10, 11] c38_32)
def c38_30 : C := (.seq (.region [
      ⟨(some 104), (.pure .mov), [.t 15], none⟩,
      ⟨(some 1), (.pure .mov), [.t 104], none⟩] false) c38_31)
def c38_29 : C := (.cond (.t 97) (.seq (.region [
      ⟨(some 98), (.pure .mov), [.t 0], none⟩,
      ⟨(some 99), (.pure .mov), [.t 1], none⟩,
      ⟨(some 100), (.pure .mov), [.t 2], none⟩,
      ⟨(some 101), (.pure .mov), [.t 13], none⟩,
      ⟨(some 102), (.pure .mov), [.t 4], none⟩,
      ⟨(some 103), (.call 48), [.t 98, .t 99, .t 100, .t 101, .t 102], none⟩,
      ⟨(some 15), (.pure .mov), [.t 103], none⟩] false) c38_30)
    .skip)
def c38_27 : C := (.seq (.seq (.region [
      ⟨(some 81), (.pure .mov), [.t 1], none⟩,
      ⟨(some 82), (.pure (.bin .gtr)), [.t 81, .c (.int .i64 (Int.ofNat 0))], none⟩,
      ⟨(some 83), (.pure .mov), [.t 82], none⟩,
      ⟨(some 84), (.pure .mov), [.t 4], (some (83, true))⟩,
      ⟨(some 85), (.pure .mov), [.t 0], (some (83, true))⟩,
      ⟨(some 86), (.pure .mov), [.t 1], (some (83, true))⟩,
      ⟨(some 87), (.pure (.bin .sub)), [.t 86, .c (.int .i64 (Int.ofNat 1))], (some (83, true))⟩,
      ⟨(some 88), (.pure (.iaddS 2)), [.t 85, .t 87], (some (83, true))⟩,
      ⟨(some 89), (.read (.load 2 true) []), [.t 88], (some (83, true))⟩,
      ⟨(some 90), (.pure .mov), [.t 0], (some (83, true))⟩,
      ⟨(some 91), (.pure .mov), [.t 13], (some (83, true))⟩,
      ⟨(some 92), (.pure (.iaddS 2)), [.t 90, .t 91], (some (83, true))⟩,
      ⟨(some 93), (.read (.load 2 true) []), [.t 92], (some (83, true))⟩,
      ⟨(some 94), .callv, [.t 84, .t 89, .t 93], (some (83, true))⟩,
      ⟨(some 95), (.pure (.bin .lss)), [.t 94, .c (.int .i64 (Int.ofNat 0))], (some (83, true))⟩,
      ⟨(some 96), (.pure (.un .not)), [.t 95], (some (83, true))⟩,
      ⟨(some 97), (.pure .pick), [.t 83, .t 96, .c (.bool false)], none⟩] false) c38_29) c38_28)
def c38_23 : C := (.keep [0, 1, 2, 3, 4, 10, 11, 12, 13] c38_27)
def c38_26 : C := .ret
def c38_25 : C := (.cond (.t 80) (.keep [] c38_26)
    .skip)
def c38_24 : C := (.cond (.t 75) (.seq (.region [
      ⟨(some 76), (.pure .mov), [.t 0], none⟩,
      ⟨(some 77), (.pure .mov), [.t 1], none⟩,
      ⟨(some 78), (.pure .mov), [.t 2], none⟩,
      ⟨(some 79), (.pure .mov), [.t 4], none⟩,
      ⟨(some 80), (.call 47), [.t 76, .t 77, .t 78, .t 79], none⟩] false) c38_25)
    .skip)
def c38_22 : C := (.seq (.seq (.region [
      ⟨(some 68), (.pure .mov), [.t 10], none⟩,
      ⟨(some 69), (.pure .mov), [.t 68], none⟩,
      ⟨(some 70), (.pure .mov), [.t 11], (some (69, true))⟩,
      ⟨(some 71), (.pure .pick), [.t 69, .t 70, .c (.bool false)], none⟩,
      ⟨(some 72), (.pure .mov), [.t 71], none⟩,
      ⟨(some 73), (.pure .mov), [.t 14], (some (72, true))⟩,
      ⟨(some 74), (.pure (.bin .eql)), [.t 73, .c (.int .i64 (Int.ofNat 1))], (some (72, true))⟩,
      ⟨(some 75), (.pure .pick), [.t 72, .t 74, .c (.bool false)], none⟩] false) c38_24) c38_23)
def c38_18 : C := (.keep [0, 1, 2, 3, 4, 10, 11, 12, 13, 14] c38_22)
def c38_21 : C := (.region [
      ⟨(some 14), (.pure .mov), [.c (.int .i64 (Int.ofNat 1))], none⟩] false)
def c38_20 : C := (.seq (.region [
      ⟨(some 62), (.pure .mov), [.t 2], none⟩,
      ⟨(some 63), (.pure (.bin .sub)), [.t 62, .c (.int .i64 (Int.ofNat 1))], none⟩,
      ⟨(some 64), (.pure .mov), [.t 13], none⟩,
      ⟨(some 65), (.pure .mov), [.t 1], none⟩,
      ⟨(some 66), (.pure (.bin .sub)), [.t 64, .t 65], none⟩,
      ⟨(some 67), (.pure (.bin .sub)), [.t 63, .t 66], none⟩,
      ⟨(some 13), (.pure .mov), [.t 67], none⟩] false) c38_21)
def c38_19 : C := (.cond (.t 56) (.seq (.region [
      ⟨(some 57), (.pure .mov), [.t 0], none⟩,
      ⟨(some 58), (.pure .mov), [.t 1], none⟩,
      ⟨(some 59), (.pure .mov), [.t 2], none⟩,
      ⟨(some 60), (.pure .mov), [.t 4], none⟩,
      ⟨(some 61), (.call 46), [.t 57, .t 58, .t 59, .t 60], none⟩] false) c38_20)
    .skip)
def c38_17 : C := (.seq (.seq (.region [
      ⟨(some 55), (.pure .mov), [.t 14], none⟩,
      ⟨(some 56), (.pure (.bin .eql)), [.t 55, .c (.int .i64 (Int.ofNat 2))], none⟩] false) c38_19) c38_18)
def c38_16 : C := (.seq (.region [
      ⟨(some 48), (.pure .mov), [.t 0], none⟩,
      ⟨(some 49), (.pure .mov), [.t 1], none⟩,
      ⟨(some 50), (.pure .mov), [.t 2], none⟩,
      ⟨(some 51), (.pure .mov), [.t 4], none⟩,
      ⟨(some 52), (.call 45), [.t 48, .t 49, .t 50, .t 51], none⟩,
      ⟨(some 47), (.pure .mov), [.t 52], none⟩,
      ⟨(some 53), (.pure (.extract 0)), [.t 47], none⟩,
      ⟨(some 54), (.pure (.extract 1)), [.t 47], none⟩,
      ⟨(some 13), (.pure .mov), [.t 53], none⟩,
      ⟨(some 14), (.pure .mov), [.t 54], none⟩] false) c38_17)
def c38_13 : C := (.keep [0, 1, 2, 3, 4, 10, 11, 12] c38_16)
def c38_15 : C := (.region [
      ⟨(some 45), (.pure .mov), [.t 3], none⟩,
      ⟨(some 46), (.pure (.bin .sub)), [.t 45, .c (.int .i64 (Int.ofNat 1))], none⟩,
      ⟨(some 3), (.pure .mov), [.t 46], none⟩] false)
def c38_14 : C := (.cond (.t 39) (.seq (.region [
      ⟨(some 40), (.pure .mov), [.t 0], none⟩,
      ⟨(some 41), (.pure .mov), [.t 1], none⟩,
      ⟨(some 42), (.pure .mov), [.t 2], none⟩,
      ⟨(some 43), (.pure .mov), [.t 4], none⟩,
      ⟨(some 44), (.call 44), [.t 40, .t 41, .t 42, .t 43], none⟩] false) c38_15)
    .skip)
def c38_9 : C := (.seq (.seq (.region [
      ⟨(some 38), (.pure .mov), [.t 10], none⟩,
      ⟨(some 39), (.pure (.un .not)), [.t 38], none⟩] false) c38_14) c38_13)
def c38_12 : C := .ret
def c38_11 : C := (.keep [] c38_12)
def c38_10 : C := (.cond (.t 32) (.seq (.region [
      ⟨(some 33), (.pure .mov), [.t 0], none⟩,
      ⟨(some 34), (.pure .mov), [.t 1], none⟩,
      ⟨(some 35), (.pure .mov), [.t 2], none⟩,
      ⟨(some 36), (.pure .mov), [.t 4], none⟩,
      ⟨(some 37), (.call 43), [.t 33, .t 34, .t 35, .t 36], none⟩] false) c38_11)
    .skip)
def c38_5 : C := (.seq (.seq (.region [
      ⟨(some 31), (.pure .mov), [.t 3], none⟩,
      ⟨(some 32), (.pure (.bin .eql)), [.t 31, .c (.int .i64 (Int.ofNat 0))], none⟩] false) c38_10) c38_9)
def c38_8 : C := .ret
def c38_7 : C := (.keep [] c38_8)
def c38_6 : C := (.cond (.t 25) (.seq (.region [
      ⟨(some 26), (.pure .mov), [.t 0], none⟩,
      ⟨(some 27), (.pure .mov), [.t 1], none⟩,
      ⟨(some 28), (.pure .mov), [.t 2], none⟩,
      ⟨(some 29), (.pure .mov), [.t 4], none⟩,
      ⟨(some 30), (.call 42), [.t 26, .t 27, .t 28, .t 29], none⟩] false) c38_7)
    .skip)
def c38_4 : C := (.seq (.seq (.region [
      ⟨(some 24), (.pure .mov), [.t 12], none⟩,
      ⟨(some 25), (.pure (.bin .leq)), [.t 24, .c (.int .i64 (Int.ofNat 12))], none⟩] false) c38_6) c38_5)
def c38_2 : C := (.seq (.block 1 (.seq (.region [
      ⟨(some 21), (.pure .mov), [.t 2], none⟩,
      ⟨(some 22), (.pure .mov), [.t 1], none⟩,
      ⟨(some 23), (.pure (.bin .sub)), [.t 21, .t 22], none⟩,
      ⟨(some 12), (.pure .mov), [.t 23], none⟩] false) c38_4)) c38_3)
def c38_1 : C := (.block 0 (.loop (some [0, 1, 2, 3, 4, 10, 11]) c38_2))
def c38_0 : C := (.seq (.region [
      ⟨(some 11), (.pure .mov), [.c (.bool true)], none⟩] false) c38_1)
def k38 : DFn := ⟨148, (.seq (.region [
      ⟨(some 10), (.pure .mov), [.c (.bool true)], none⟩] false) c38_0), []⟩
theorem c38 : (match Tryd.prog.funcs[38]? with | some fn => compileFn Tryd.prog 1 [none, none, some [0, 1, 2, 3, 4, 10, 11], none, none, none, none, some [], none, none, none, some [], some [0, 1, 2, 3, 4, 10, 11, 12], none, none, none, some [0, 1, 2, 3, 4, 10, 11, 12, 13, 14], none, none, none, some [0, 1, 2, 3, 4, 10, 11, 12, 13], none, none, some [], none, none, none, none, some [0, 1, 2, 3, 4, 10, 11], none, none, none, none, none, none, none, none, none] fn | none => none) = some k38 := by kernel_rfl
def q38_0 (tb : Nat → Option DFn) (nv : CallF) (Q : Value → Heap → Prop) : Kont := kBlk 0 (kFn [] Q)
def q38_1 (tb : Nat → Option DFn) (nv : CallF) (K : Kont) : Kont := kSeq (fun wf H => wC tb nv c38_3 wf H K) K
def q38_2 (tb : Nat → Option DFn) (nv : CallF) (K : Kont) : Kont := kBlk 1 (q38_1 tb nv K)
def w38_16 (tb : Nat → Option DFn) (nv : CallF) (t0 t1 t2 t3 t4 t10 t11 t12 : Value) (H : Heap) (K : Kont) : Prop := wC tb nv c38_16 (mkW [(0, t0), (1, t1), (2, t2), (3, t3), (4, t4), (10, t10), (11, t11), (12, t12)]) H (q38_2 tb nv K)
def w38_22 (tb : Nat → Option DFn) (nv : CallF) (t0 t1 t2 t3 t4 t10 t11 t12 t13 t14 : Value) (H : Heap) (K : Kont) : Prop := wC tb nv c38_22 (mkW [(0, t0), (1, t1), (2, t2), (3, t3), (4, t4), (10, t10), (11, t11), (12, t12), (13, t13), (14, t14)]) H (q38_2 tb nv K)
def w38_27 (tb : Nat → Option DFn) (nv : CallF) (t0 t1 t2 t3 t4 t10 t11 t12 t13 : Value) (H : Heap) (K : Kont) : Prop := wC tb nv c38_27 (mkW [(0, t0), (1, t1), (2, t2), (3, t3), (4, t4), (10, t10), (11, t11), (12, t12), (13, t13)]) H (q38_2 tb nv K)
theorem e38 (tb : Nat → Option DFn) (nv : CallF) (a0 a1 a2 a3 a4 : Value) (H : Heap) (Q : Value → Heap → Prop) : wFn tb nv k38 [a0, a1, a2, a3, a4] H Q = (
    wLoop tb nv c38_2 [0, 1, 2, 3, 4, 10, 11] (mkW [(0, a0), (1, a1), (2, a2), (3, a3), (4, a4), (10, (.bool true)), (11, (.bool true))]) H (q38_0 tb nv Q)) := by kernel_rfl
theorem l38_2 (tb : Nat → Option DFn) (nv : CallF) (t0 t1 t2 t3 t4 t10 t11 : Value) (H : Heap) (K : Kont) : wC tb nv c38_2 (mkW [(0, t0), (1, t1), (2, t2), (3, t3), (4, t4), (10, t10), (11, t11)]) H K = (
    wP (.bin .sub) [t2, t1] fun x0 =>
    wP (.bin .leq) [x0, (.int .i64 12)] fun x1 =>
    asB x1 fun b2 => onB b2 (Ev tb nv 42 [t0, t1, t2, t4] H fun x3 H4 =>
    atK (K .ret (mkW []) H4))
    (wP (.bin .eql) [t3, (.int .i64 0)] fun x5 =>
    asB x5 fun b6 => onB b6 (Ev tb nv 43 [t0, t1, t2, t4] H fun x7 H8 =>
    atK (K .ret (mkW []) H8))
    (wP (.un .not) [t10] fun x9 =>
    asB x9 fun b10 => onB b10 (Ev tb nv 44 [t0, t1, t2, t4] H fun x11 H12 =>
    wP (.bin .sub) [t3, (.int .i64 1)] fun x13 =>
    atK (w38_16 tb nv t0 t1 t2 x13 t4 t10 t11 x0 H12 K))
    (atK (w38_16 tb nv t0 t1 t2 t3 t4 t10 t11 x0 H K))))) := by kernel_rfl
theorem x38_2_0 (tb : Nat → Option DFn) (nv : CallF) (H : Heap) (Q : Value → Heap → Prop) : (q38_0 tb nv Q) .ret (mkW []) H = (
    Q (.tuple ⟨[]⟩) H) := by kernel_rfl
theorem e38_16 (tb : Nat → Option DFn) (nv : CallF) (t0 t1 t2 t3 t4 t10 t11 t12 : Value) (H : Heap) (K : Kont) : w38_16 tb nv t0 t1 t2 t3 t4 t10 t11 t12 H K = (
    Ev tb nv 45 [t0, t1, t2, t4] H fun x14 H15 =>
    wP (.extract 0) [x14] fun x16 =>
    wP (.extract 1) [x14] fun x17 =>
    wP (.bin .eql) [x17, (.int .i64 2)] fun x18 =>
    asB x18 fun b19 => onB b19 (Ev tb nv 46 [t0, t1, t2, t4] H15 fun x20 H21 =>
    wP (.bin .sub) [t2, (.int .i64 1)] fun x22 =>
    wP (.bin .sub) [x16, t1] fun x23 =>
    wP (.bin .sub) [x22, x23] fun x24 =>
    atK (w38_22 tb nv t0 t1 t2 t3 t4 t10 t11 t12 x24 (.int .i64 1) H21 K))
    (atK (w38_22 tb nv t0 t1 t2 t3 t4 t10 t11 t12 x16 x17 H15 K))) := by kernel_rfl
theorem e38_22 (tb : Nat → Option DFn) (nv : CallF) (t0 t1 t2 t3 t4 t10 t11 t12 t13 t14 : Value) (H : Heap) (K : Kont) : w38_22 tb nv t0 t1 t2 t3 t4 t10 t11 t12 t13 t14 H K = (
    asB t10 fun b25 => onB b25 (asB t11 fun b26 => onB b26 (wP (.bin .eql) [t14, (.int .i64 1)] fun x27 =>
    asB x27 fun b28 => onB b28 (Ev tb nv 47 [t0, t1, t2, t4] H fun x29 H30 =>
    asB x29 fun b31 => onB b31 (atK (K .ret (mkW []) H30))
    (atK (w38_27 tb nv t0 t1 t2 t3 t4 t10 t11 t12 t13 H30 K)))
    (atK (w38_27 tb nv t0 t1 t2 t3 t4 t10 t11 t12 t13 H K)))
    (atK (w38_27 tb nv t0 t1 t2 t3 t4 t10 t11 t12 t13 H K)))
    (atK (w38_27 tb nv t0 t1 t2 t3 t4 t10 t11 t12 t13 H K))) := by kernel_rfl
theorem e38_27 (tb : Nat → Option DFn) (nv : CallF) (t0 t1 t2 t3 t4 t10 t11 t12 t13 : Value) (H : Heap) (K : Kont) : w38_27 tb nv t0 t1 t2 t3 t4 t10 t11 t12 t13 H K = (
    wP (.bin .gtr) [t1, (.int .i64 0)] fun x32 =>
    asB x32 fun b33 => onB b33 (wP (.bin .sub) [t1, (.int .i64 1)] fun x34 =>
    wP (.iaddS 2) [t0, x34] fun x35 =>
    wR (.load 2 true) [x35] H fun x36 =>
    wP (.iaddS 2) [t0, t13] fun x37 =>
    wR (.load 2 true) [x37] H fun x38 =>
    wIns (Ev tb nv) .callv [t4, x36, x38] H fun x39 H40 =>
    wP (.bin .lss) [x39, (.int .i64 0)] fun x41 =>
    wP (.un .not) [x41] fun x42 =>
    asB x42 fun b43 => onB b43 (Ev tb nv 48 [t0, t1, t2, t13, t4] H40 fun x44 H45 =>
    atK (atK (K .normal (mkW [(0, t0), (1, x44), (2, t2), (3, t3), (4, t4), (10, t10), (11, t11)]) H45)))
    (Ev tb nv 49 [t0, t1, t2, t13, t4] H40 fun x46 H47 =>
    wP (.extract 0) [x46] fun x48 =>
    wP (.extract 1) [x46] fun x49 =>
    wP (.bin .sub) [x48, t1] fun x50 =>
    wP (.bin .sub) [t2, x48] fun x51 =>
    wP (.bin .quo) [t12, (.int .i64 8)] fun x52 =>
    wP (.bin .lss) [x50, x51] fun x53 =>
    asB x53 fun b54 => onB b54 (wP (.bin .geq) [x50, x52] fun x55 =>
    Ev tb nv 38 [t0, t1, x48, t3, t4] H47 fun x56 H57 =>
    wP (.bin .add) [x48, (.int .i64 1)] fun x58 =>
    atK (K .normal (mkW [(0, t0), (1, x58), (2, t2), (3, t3), (4, t4), (10, x55), (11, x49)]) H57))
    (wP (.bin .geq) [x51, x52] fun x59 =>
    wP (.bin .add) [x48, (.int .i64 1)] fun x60 =>
    Ev tb nv 38 [t0, x60, t2, t3, t4] H47 fun x61 H62 =>
    atK (K .normal (mkW [(0, t0), (1, t1), (2, x48), (3, t3), (4, t4), (10, x59), (11, x49)]) H62))))
    (Ev tb nv 49 [t0, t1, t2, t13, t4] H fun x63 H64 =>
    wP (.extract 0) [x63] fun x65 =>
    wP (.extract 1) [x63] fun x66 =>
    wP (.bin .sub) [x65, t1] fun x67 =>
    wP (.bin .sub) [t2, x65] fun x68 =>
    wP (.bin .quo) [t12, (.int .i64 8)] fun x69 =>
    wP (.bin .lss) [x67, x68] fun x70 =>
    asB x70 fun b71 => onB b71 (wP (.bin .geq) [x67, x69] fun x72 =>
    Ev tb nv 38 [t0, t1, x65, t3, t4] H64 fun x73 H74 =>
    wP (.bin .add) [x65, (.int .i64 1)] fun x75 =>
    atK (K .normal (mkW [(0, t0), (1, x75), (2, t2), (3, t3), (4, t4), (10, x72), (11, x66)]) H74))
    (wP (.bin .geq) [x68, x69] fun x76 =>
    wP (.bin .add) [x65, (.int .i64 1)] fun x77 =>
    Ev tb nv 38 [t0, x77, t2, t3, t4] H64 fun x78 H79 =>
    atK (K .normal (mkW [(0, t0), (1, t1), (2, x65), (3, t3), (4, t4), (10, x76), (11, x66)]) H79)))) := by kernel_rfl

/-- math/bits.Len -/
def c39_5 : C := .ret
def c39_4 : C := (.keep [2] c39_5)
def c39_1 : C := (.seq (.region [
      ⟨(some 6), (.pure .mov), [.t 0], none⟩,
      ⟨(some 7), (.call 31), [.t 6], none⟩,
      ⟨(some 2), (.pure .mov), [.t 7], none⟩] false) c39_4)
def c39_3 : C := .ret
def c39_2 : C := (.keep [2] c39_3)
def c39_0 : C := (.seq (.cond (.c (.bool false)) (.seq (.region [
      ⟨(some 3), (.pure .mov), [.t 0], none⟩,
      ⟨(some 4), (.pure (.conv .u32)), [.t 3], none⟩,
      ⟨(some 5), (.call 50), [.t 4], none⟩,
      ⟨(some 2), (.pure .mov), [.t 5], none⟩] false) c39_2)
    .skip) c39_1)
def k39 : DFn := ⟨8, (.seq (.region [
      ⟨(some 2), (.pure .mov), [.c (.int .i64 (Int.ofNat 0))], none⟩] false) c39_0), [.tmp 2]⟩
theorem c39 : (match Tryd.prog.funcs[39]? with | some fn => compileFn Tryd.prog 1 [none, none, none, some [2], none, some [2]] fn | none => none) = some k39 := by kernel_rfl
theorem e39 (tb : Nat → Option DFn) (nv : CallF) (a0 : Value) (H : Heap) (Q : Value → Heap → Prop) : wFn tb nv k39 [a0] H Q = (
    Ev tb nv 31 [a0] H fun x0 H1 =>
    atK (Q x0 H1)) := by kernel_rfl

/-- cmp.isNaN[int] -/
def c40_2 : C := .ret
def c40_1 : C := (.keep [2] c40_2)
def c40_0 : C := (.seq (.region [
      ⟨(some 3), (.pure .mov), [.t 0], none⟩,
      ⟨(some 4), (.pure .mov), [.t 0], none⟩,
      ⟨(some 5), (.pure (.bin .neq)), [.t 3, .t 4], none⟩,
      ⟨(some 2), (.pure .mov), [.t 5], none⟩] false) c40_1)
def k40 : DFn := ⟨6, (.seq (.region [
      ⟨(some 2), (.pure .mov), [.c (.bool false)], none⟩] false) c40_0), [.tmp 2]⟩
theorem c40 : (match Tryd.prog.funcs[40]? with | some fn => compileFn Tryd.prog 1 [none, none, some [2]] fn | none => none) = some k40 := by kernel_rfl
theorem e40 (tb : Nat → Option DFn) (nv : CallF) (a0 : Value) (H : Heap) (Q : Value → Heap → Prop) : wFn tb nv k40 [a0] H Q = (
    wP (.bin .neq) [a0, a0] fun x0 =>
    atK (Q x0 H)) := by kernel_rfl

/-- slices.IndexFunc[[]int,int] -/
def c41_16 : C := .ret
def c41_15 : C := (.keep [4] c41_16)
def c41_14 : C := (.seq (.region [
      ⟨(some 4), (.pure .mov), [.c (.int .i64 (Int.negSucc 0))], none⟩] false) c41_15)
def c41_1 : C := (.keep [] c41_14)
def c41_13 : C := .skip
def c41_4 : C := (.keep [0, 1, 7, 8] c41_13)
def c41_8 : C := (.region [
      ⟨(some 18), (.pure (.bin .add)), [.t 8, .c (.int .i64 (Int.ofNat 1))], none⟩,
      ⟨(some 8), (.pure .mov), [.t 18], none⟩] false)
def c41_12 : C := .ret
def c41_11 : C := (.keep [4] c41_12)
def c41_10 : C := (.cond (.t 16) (.seq (.region [
      ⟨(some 17), (.pure .mov), [.t 5], none⟩,
      ⟨(some 4), (.pure .mov), [.t 17], none⟩] false) c41_11)
    .skip)
def c41_9 : C := (.seq (.region [
      ⟨(some 11), (.pure .mov), [.t 1], none⟩,
      ⟨(some 12), (.pure .mov), [.t 0], none⟩,
      ⟨(some 13), (.pure .mov), [.t 5], none⟩,
      ⟨(some 14), (.pure (.iaddS 1)), [.t 12, .t 13], none⟩,
      ⟨(some 15), (.read (.load 1 false) []), [.t 14], none⟩,
      ⟨(some 16), .callv, [.t 11, .t 15], none⟩] false) c41_10)
def c41_6 : C := (.seq (.block 1 (.seq (.region [
      ⟨(some 10), (.pure .mov), [.t 8], none⟩,
      ⟨(some 5), (.pure .mov), [.t 10], none⟩] false) c41_9)) c41_8)
def c41_7 : C := (.exit 0)
def c41_5 : C := (.seq (.cond (.t 9) .skip
    (.keep [] c41_7)) c41_6)
def c41_3 : C := (.seq (.seq (.region [
      ⟨(some 9), (.pure (.bin .lss)), [.t 8, .t 7], none⟩] false) c41_5) c41_4)
def c41_2 : C := (.block 0 (.loop (some [0, 1, 7, 8]) c41_3))
def c41_0 : C := (.seq (.seq (.region [
      ⟨(some 6), (.pure .mov), [.t 0], none⟩,
      ⟨(some 7), (.pure .lenS), [.t 6], none⟩,
      ⟨(some 8), (.pure .mov), [.c (.int .i64 (Int.ofNat 0))], none⟩] false) c41_2) c41_1)
def k41 : DFn := ⟨19, (.seq (.region [
      ⟨(some 4), (.pure .mov), [.c (.int .i64 (Int.ofNat 0))], none⟩] false) c41_0), [.tmp 4]⟩
theorem c41 : (match Tryd.prog.funcs[41]? with | some fn => compileFn Tryd.prog 1 [none, some [], none, some [0, 1, 7, 8], none, none, some [], none, none, none, none, some [4], none, some [4]] fn | none => none) = some k41 := by kernel_rfl
def q41_0 (tb : Nat → Option DFn) (nv : CallF) (Q : Value → Heap → Prop) : Kont := kSeq (fun wf H => wC tb nv c41_1 wf H (kFn [.tmp 4] Q)) (kFn [.tmp 4] Q)
def q41_1 (tb : Nat → Option DFn) (nv : CallF) (Q : Value → Heap → Prop) : Kont := kBlk 0 (q41_0 tb nv Q)
def w41_14 (tb : Nat → Option DFn) (nv : CallF) (H : Heap) (Q : Value → Heap → Prop) : Prop := wC tb nv c41_14 (mkW []) H (kFn [.tmp 4] Q)
theorem e41 (tb : Nat → Option DFn) (nv : CallF) (a0 a1 : Value) (H : Heap) (Q : Value → Heap → Prop) : wFn tb nv k41 [a0, a1] H Q = (
    wP .lenS [a0] fun x0 =>
    wLoop tb nv c41_3 [0, 1, 7, 8] (mkW [(0, a0), (1, a1), (7, x0), (8, (.int .i64 0))]) H (q41_1 tb nv Q)) := by kernel_rfl
theorem l41_3 (tb : Nat → Option DFn) (nv : CallF) (t0 t1 t7 t8 : Value) (H : Heap) (K : Kont) : wC tb nv c41_3 (mkW [(0, t0), (1, t1), (7, t7), (8, t8)]) H K = (
    wP (.bin .lss) [t8, t7] fun x1 =>
    asB x1 fun b2 => onB b2 (wP (.iaddS 1) [t0, t8] fun x3 =>
    wR (.load 1 false) [x3] H fun x4 =>
    wIns (Ev tb nv) .callv [t1, x4] H fun x5 H6 =>
    asB x5 fun b7 => onB b7 (atK (K .ret (mkW [(4, t8)]) H6))
    (wP (.bin .add) [t8, (.int .i64 1)] fun x8 =>
    atK (K .normal (mkW [(0, t0), (1, t1), (7, t7), (8, x8)]) H6)))
    (atK (K (.exit 0) (mkW []) H))) := by kernel_rfl
theorem x41_3_0 (tb : Nat → Option DFn) (nv : CallF) (t4 : Value) (H : Heap) (Q : Value → Heap → Prop) : (q41_1 tb nv Q) .ret (mkW [(4, t4)]) H = (
    Q t4 H) := by kernel_rfl
theorem x41_3_1 (tb : Nat → Option DFn) (nv : CallF) (H : Heap) (Q : Value → Heap → Prop) : (q41_1 tb nv Q) (.exit 0) (mkW []) H = (
    atK (w41_14 tb nv  H Q)) := by kernel_rfl
theorem e41_14 (tb : Nat → Option DFn) (nv : CallF) (H : Heap) (Q : Value → Heap → Prop) : w41_14 tb nv  H Q = (
    atK (Q (.int .i64 (Int.negSucc 0)) H)) := by kernel_rfl

end Go.Proofs.YtedeopeegicnbaaDoor.D
