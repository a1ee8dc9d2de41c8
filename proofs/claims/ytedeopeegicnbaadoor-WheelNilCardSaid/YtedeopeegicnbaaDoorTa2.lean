/- The compiled functions of the seat, as the machine "D" runs them, and what each comes to (written by a program). No statement of the seat is proved in this text. -/
import Derived.Test.YtedeopeegicnbaaDoorDz
import Derived.Test.YtedeopeegicnbaaDoorProg
set_option maxRecDepth 100000
set_option linter.unusedVariables false
namespace Go.Proofs.YtedeopeegicnbaaDoor.D
open Go
/-- tompion/tompionref06.New -/
def c18_2 : C := .ret
def c18_1 : C := (.keep [2] c18_2)
def c18_0 : C := (.seq (.region [
      ⟨(some 3), (.pure .mov), [.t 0], none⟩,
      ⟨(some 4), (.pure .max), [.t 3, .c (.int .i64 (Int.ofNat 0))], none⟩,
      ⟨(some 5), (.pure .min), [.t 4, .c (.int .i64 (Int.ofNat 1099511627776))], none⟩,
      ⟨(some 6), (.pure (.build [(.int .i64 (Int.ofNat 0)), (.slice none 0 0)] [(0, 1)])), [.t 5], none⟩,
      ⟨(some 7), (.alloc .box), [.t 6], none⟩,
      ⟨(some 2), (.pure .mov), [.t 7], none⟩] false) c18_1)
def k18 : DFn := ⟨8, (.seq (.region [
      ⟨(some 2), (.pure .mov), [.c (.pointer none)], none⟩] false) c18_0), [.tmp 2]⟩
theorem c18 : (match Tryd.prog.funcs[18]? with | some fn => compileFn Tryd.prog 1 [none, none, some [2]] fn | none => none) = some k18 := by kernel_rfl
theorem e18 (tb : Nat → Option DFn) (nv : CallF) (a0 : Value) (H : Heap) (Q : Value → Heap → Prop) : wFn tb nv k18 [a0] H Q = (
    wP .max [a0, (.int .i64 0)] fun x0 =>
    wP .min [x0, (.int .i64 1099511627776)] fun x1 =>
    wP (.build [(.int .i64 0), (.slice none 0 0)] [(0, 1)]) [x1] fun x2 =>
    wA .box [x2] H fun x3 H4 =>
    atK (Q x3 H4)) := by kernel_rfl

/-- (*tompion/tompionref06.Wheel).Set -/
def c19_22 : C := .ret
def c19_21 : C := (.keep [6] c19_22)
def c19_20 : C := (.seq (.region [
      ⟨(some 6), (.pure .mov), [.c (.int .i64 (Int.ofNat 0))], none⟩] false) c19_21)
def c19_19 : C := (.seq (.region [
      ⟨(some 91), (.pure .mov), [.t 0], none⟩,
      ⟨(some 92), (.pure .mov), [.t 0], none⟩,
      ⟨(some 93), (.pure .nilchk), [.t 92], none⟩,
      ⟨(some 94), (.pure (.fadd 1)), [.t 93], none⟩,
      ⟨(some 95), (.read (.load 1 false) []), [.t 94], none⟩,
      ⟨(some 96), (.pure .mov), [.t 7], none⟩,
      ⟨(some 97), (.pure .mov), [.t 7], none⟩,
      ⟨(some 98), (.pure (.slcS 2 false true true)), [.t 95, .t 96, .t 97], none⟩,
      ⟨(some 99), (.pure .mov), [.t 1], none⟩,
      ⟨(some 100), (.pure .mov), [.t 2], none⟩,
      ⟨(some 101), (.pure (.build [(.int .i64 (Int.ofNat 0)), (.int .i64 (Int.ofNat 0))] [(0, 1), (1, 1)])), [.t 99, .t 100], none⟩,
      ⟨(some 102), (.alloc (.bslice [(.int .i64 (Int.ofNat 0)), (.int .i64 (Int.ofNat 0))] [(0, 2)] 2 1)), [.t 101], none⟩,
      ⟨(some 103), (.eff (.app 2 16)), [.t 98, .t 102], none⟩,
      ⟨(some 104), (.pure .mov), [.t 8], none⟩,
      ⟨(some 105), (.eff (.app 2 16)), [.t 103, .t 104], none⟩,
      ⟨(some 106), (.pure .nilchk), [.t 91], none⟩,
      ⟨(some 107), (.pure (.fadd 1)), [.t 106], none⟩,
      ⟨none, (.eff (.store 1)), [.t 107, .t 105], none⟩] false) c19_20)
def c19_18 : C := (.seq (.region [
      ⟨(some 83), (.alloc (.bslice [] [] 2 0)), [], none⟩,
      ⟨(some 84), (.pure .mov), [.t 0], none⟩,
      ⟨(some 85), (.pure .nilchk), [.t 84], none⟩,
      ⟨(some 86), (.pure (.fadd 1)), [.t 85], none⟩,
      ⟨(some 87), (.read (.load 1 false) []), [.t 86], none⟩,
      ⟨(some 88), (.pure .mov), [.t 7], none⟩,
      ⟨(some 89), (.pure (.slcS 2 true false false)), [.t 87, .t 88], none⟩,
      ⟨(some 90), (.eff (.app 2 16)), [.t 83, .t 89], none⟩,
      ⟨(some 8), (.pure .mov), [.t 90], none⟩] false) c19_19)
def c19_11 : C := (.keep [0, 1, 2, 7] c19_18)
def c19_17 : C := .skip
def c19_13 : C := (.keep [0, 1, 2, 7] c19_17)
def c19_14 : C := (.block 1 (.region [
      ⟨(some 81), (.pure .mov), [.t 7], none⟩,
      ⟨(some 82), (.pure (.bin .add)), [.t 81, .c (.int .i64 (Int.ofNat 1))], none⟩,
      ⟨(some 7), (.pure .mov), [.t 82], none⟩] false))
def c19_16 : C := (.exit 0)
def c19_15 : C := (.cond (.t 80) .skip
    (.keep [0, 1, 2, 7] c19_16))
def c19_12 : C := (.seq (.seq (.seq (.region [
      ⟨(some 38), (.pure .mov), [.t 7], none⟩,
      ⟨(some 39), (.pure .mov), [.t 0], none⟩,
      ⟨(some 40), (.pure .nilchk), [.t 39], none⟩,
      ⟨(some 41), (.pure (.fadd 1)), [.t 40], none⟩,
      ⟨(some 42), (.read (.load 1 false) []), [.t 41], none⟩,
      ⟨(some 43), (.pure .lenS), [.t 42], none⟩,
      ⟨(some 44), (.pure (.bin .lss)), [.t 38, .t 43], none⟩,
      ⟨(some 45), (.pure .mov), [.t 44], none⟩,
      ⟨(some 46), (.pure .mov), [.t 0], (some (45, true))⟩,
      ⟨(some 47), (.pure .nilchk), [.t 46], (some (45, true))⟩,
      ⟨(some 48), (.pure (.fadd 1)), [.t 47], (some (45, true))⟩,
      ⟨(some 49), (.read (.load 1 false) []), [.t 48], (some (45, true))⟩,
      ⟨(some 50), (.pure .mov), [.t 7], (some (45, true))⟩,
      ⟨(some 51), (.pure (.iaddS 2)), [.t 49, .t 50], (some (45, true))⟩,
      ⟨(some 52), (.pure (.fadd 1)), [.t 51], (some (45, true))⟩,
      ⟨(some 53), (.read (.load 1 false) []), [.t 52], (some (45, true))⟩,
      ⟨(some 54), (.pure .mov), [.t 2], (some (45, true))⟩,
      ⟨(some 55), (.pure (.bin .lss)), [.t 53, .t 54], (some (45, true))⟩,
      ⟨(some 56), (.pure .mov), [.t 55], (some (45, true))⟩,
      ⟨(some 57), (.pure .mov), [.t 0], (some (56, false))⟩,
      ⟨(some 58), (.pure .nilchk), [.t 57], (some (56, false))⟩,
      ⟨(some 59), (.pure (.fadd 1)), [.t 58], (some (56, false))⟩,
      ⟨(some 60), (.read (.load 1 false) []), [.t 59], (some (56, false))⟩,
      ⟨(some 61), (.pure .mov), [.t 7], (some (56, false))⟩,
      ⟨(some 62), (.pure (.iaddS 2)), [.t 60, .t 61], (some (56, false))⟩,
      ⟨(some 63), (.pure (.fadd 1)), [.t 62], (some (56, false))⟩,
      ⟨(some 64), (.read (.load 1 false) []), [.t 63], (some (56, false))⟩,
      ⟨(some 65), (.pure .mov), [.t 2], (some (56, false))⟩,
      ⟨(some 66), (.pure (.bin .eql)), [.t 64, .t 65], (some (56, false))⟩,
      ⟨(some 67), (.pure .mov), [.t 66], (some (56, false))⟩,
      ⟨(some 68), (.pure .mov), [.t 0], (some (67, true))⟩,
      ⟨(some 69), (.pure .nilchk), [.t 68], (some (67, true))⟩,
      ⟨(some 70), (.pure (.fadd 1)), [.t 69], (some (67, true))⟩,
      ⟨(some 71), (.read (.load 1 false) []), [.t 70], (some (67, true))⟩,
      ⟨(some 72), (.pure .mov), [.t 7], (some (67, true))⟩,
      ⟨(some 73), (.pure (.iaddS 2)), [.t 71, .t 72], (some (67, true))⟩,
      ⟨(some 74), (.pure (.fadd 0)), [.t 73], (some (67, true))⟩,
      ⟨(some 75), (.read (.load 1 false) []), [.t 74], (some (67, true))⟩,
      ⟨(some 76), (.pure .mov), [.t 1], (some (67, true))⟩,
      ⟨(some 77), (.pure (.bin .lss)), [.t 75, .t 76], (some (67, true))⟩,
      ⟨(some 78), (.pure .pick), [.t 67, .t 77, .c (.bool false)], (some (56, false))⟩,
      ⟨(some 79), (.pure .pick), [.t 56, .c (.bool true), .t 78], (some (45, true))⟩,
      ⟨(some 80), (.pure .pick), [.t 45, .t 79, .c (.bool false)], none⟩] false) c19_15) c19_14) c19_13)
def c19_10 : C := (.seq (.block 0 (.loop (some [0, 1, 2, 7]) c19_12)) c19_11)
def c19_9 : C := (.seq (.region [
      ⟨(some 7), (.pure .mov), [.c (.int .i64 (Int.ofNat 0))], none⟩] false) c19_10)
def c19_5 : C := (.seq (.region [
      ⟨(some 35), (.pure .mov), [.t 0], none⟩,
      ⟨(some 36), (.pure .mov), [.t 1], none⟩,
      ⟨(some 37), (.call 20), [.t 35, .t 36], none⟩] false) c19_9)
def c19_8 : C := .ret
def c19_7 : C := (.keep [6] c19_8)
def c19_6 : C := (.cond (.t 34) (.seq (.region [
      ⟨(some 6), (.pure .mov), [.c (.int .i64 (Int.ofNat 5))], none⟩] false) c19_7)
    .skip)
def c19_1 : C := (.seq (.seq (.region [
      ⟨(some 23), (.pure .mov), [.t 0], none⟩,
      ⟨(some 24), (.pure .mov), [.t 1], none⟩,
      ⟨(some 25), (.call 30), [.t 23, .t 24], none⟩,
      ⟨(some 26), (.pure (.bin .lss)), [.t 25, .c (.int .i64 (Int.ofNat 0))], none⟩,
      ⟨(some 27), (.pure .mov), [.t 26], none⟩,
      ⟨(some 28), (.pure .mov), [.t 0], (some (27, true))⟩,
      ⟨(some 29), (.pure .nilchk), [.t 28], (some (27, true))⟩,
      ⟨(some 30), (.pure (.fadd 1)), [.t 29], (some (27, true))⟩,
      ⟨(some 31), (.read (.load 1 false) []), [.t 30], (some (27, true))⟩,
      ⟨(some 32), (.pure .lenS), [.t 31], (some (27, true))⟩,
      ⟨(some 33), (.pure (.bin .geq)), [.t 32, .c (.int .i64 (Int.ofNat 1000))], (some (27, true))⟩,
      ⟨(some 34), (.pure .pick), [.t 27, .t 33, .c (.bool false)], none⟩] false) c19_6) c19_5)
def c19_4 : C := .ret
def c19_3 : C := (.keep [6] c19_4)
def c19_2 : C := (.cond (.t 22) (.seq (.region [
      ⟨(some 6), (.pure .mov), [.c (.int .i64 (Int.ofNat 1))], none⟩] false) c19_3)
    .skip)
def c19_0 : C := (.seq (.seq (.region [
      ⟨(some 9), (.pure .mov), [.t 1], none⟩,
      ⟨(some 10), (.pure (.bin .lss)), [.t 9, .c (.int .i64 (Int.ofNat 0))], none⟩,
      ⟨(some 11), (.pure .mov), [.t 10], none⟩,
      ⟨(some 12), (.pure .mov), [.t 1], (some (11, false))⟩,
      ⟨(some 13), (.pure (.bin .gtr)), [.t 12, .c (.int .i64 (Int.ofNat 1048576))], (some (11, false))⟩,
      ⟨(some 14), (.pure .pick), [.t 11, .c (.bool true), .t 13], none⟩,
      ⟨(some 15), (.pure .mov), [.t 14], none⟩,
      ⟨(some 16), (.pure .mov), [.t 2], (some (15, false))⟩,
      ⟨(some 17), (.pure (.bin .lss)), [.t 16, .c (.int .i64 (Int.ofNat 0))], (some (15, false))⟩,
      ⟨(some 18), (.pure .pick), [.t 15, .c (.bool true), .t 17], none⟩,
      ⟨(some 19), (.pure .mov), [.t 18], none⟩,
      ⟨(some 20), (.pure .mov), [.t 2], (some (19, false))⟩,
      ⟨(some 21), (.pure (.bin .gtr)), [.t 20, .c (.int .i64 (Int.ofNat 1099511627776))], (some (19, false))⟩,
      ⟨(some 22), (.pure .pick), [.t 19, .c (.bool true), .t 21], none⟩] false) c19_2) c19_1)
def k19 : DFn := ⟨108, (.seq (.region [
      ⟨(some 6), (.pure .mov), [.c (.int .i64 (Int.ofNat 0))], none⟩] false) c19_0), [.tmp 6]⟩
theorem c19 : (match Tryd.prog.funcs[19]? with | some fn => compileFn Tryd.prog 1 [none, none, none, none, some [6], none, none, none, some [6], none, none, some [0, 1, 2, 7], some [0, 1, 2, 7], none, none, some [0, 1, 2, 7], none, none, none, some [6]] fn | none => none) = some k19 := by kernel_rfl
def q19_0 (tb : Nat → Option DFn) (nv : CallF) (Q : Value → Heap → Prop) : Kont := kSeq (fun wf H => wC tb nv c19_11 wf H (kFn [.tmp 6] Q)) (kFn [.tmp 6] Q)
def q19_1 (tb : Nat → Option DFn) (nv : CallF) (Q : Value → Heap → Prop) : Kont := kBlk 0 (q19_0 tb nv Q)
def w19_18 (tb : Nat → Option DFn) (nv : CallF) (t0 t1 t2 t7 : Value) (H : Heap) (Q : Value → Heap → Prop) : Prop := wC tb nv c19_18 (mkW [(0, t0), (1, t1), (2, t2), (7, t7)]) H (kFn [.tmp 6] Q)
theorem e19 (tb : Nat → Option DFn) (nv : CallF) (a0 a1 a2 : Value) (H : Heap) (Q : Value → Heap → Prop) : wFn tb nv k19 [a0, a1, a2] H Q = (
    wP (.bin .lss) [a1, (.int .i64 0)] fun x0 =>
    asB x0 fun b1 => onB b1 (atK (Q (.int .i64 1) H))
    (wP (.bin .gtr) [a1, (.int .i64 1048576)] fun x2 =>
    asB x2 fun b3 => onB b3 (atK (Q (.int .i64 1) H))
    (wP (.bin .lss) [a2, (.int .i64 0)] fun x4 =>
    asB x4 fun b5 => onB b5 (atK (Q (.int .i64 1) H))
    (wP (.bin .gtr) [a2, (.int .i64 1099511627776)] fun x6 =>
    asB x6 fun b7 => onB b7 (atK (Q (.int .i64 1) H))
    (Ev tb nv 30 [a0, a1] H fun x8 H9 =>
    wP (.bin .lss) [x8, (.int .i64 0)] fun x10 =>
    asB x10 fun b11 => onB b11 (wP .nilchk [a0] fun x12 =>
    wP (.fadd 1) [x12] fun x13 =>
    wR (.load 1 false) [x13] H9 fun x14 =>
    wP .lenS [x14] fun x15 =>
    wP (.bin .geq) [x15, (.int .i64 1000)] fun x16 =>
    asB x16 fun b17 => onB b17 (atK (Q (.int .i64 5) H9))
    (Ev tb nv 20 [a0, a1] H9 fun x18 H19 =>
    wLoop tb nv c19_12 [0, 1, 2, 7] (mkW [(0, a0), (1, a1), (2, a2), (7, (.int .i64 0))]) H19 (q19_1 tb nv Q)))
    (Ev tb nv 20 [a0, a1] H9 fun x20 H21 =>
    wLoop tb nv c19_12 [0, 1, 2, 7] (mkW [(0, a0), (1, a1), (2, a2), (7, (.int .i64 0))]) H21 (q19_1 tb nv Q))))))) := by kernel_rfl
theorem l19_12 (tb : Nat → Option DFn) (nv : CallF) (t0 t1 t2 t7 : Value) (H : Heap) (K : Kont) : wC tb nv c19_12 (mkW [(0, t0), (1, t1), (2, t2), (7, t7)]) H K = (
    wP .nilchk [t0] fun x22 =>
    wP (.fadd 1) [x22] fun x23 =>
    wR (.load 1 false) [x23] H fun x24 =>
    wP .lenS [x24] fun x25 =>
    wP (.bin .lss) [t7, x25] fun x26 =>
    asB x26 fun b27 => onB b27 (wP .nilchk [t0] fun x28 =>
    wP (.fadd 1) [x28] fun x29 =>
    wR (.load 1 false) [x29] H fun x30 =>
    wP (.iaddS 2) [x30, t7] fun x31 =>
    wP (.fadd 1) [x31] fun x32 =>
    wR (.load 1 false) [x32] H fun x33 =>
    wP (.bin .lss) [x33, t2] fun x34 =>
    asB x34 fun b35 => onB b35 (wP (.bin .add) [t7, (.int .i64 1)] fun x36 =>
    atK (K .normal (mkW [(0, t0), (1, t1), (2, t2), (7, x36)]) H))
    (wP .nilchk [t0] fun x37 =>
    wP (.fadd 1) [x37] fun x38 =>
    wR (.load 1 false) [x38] H fun x39 =>
    wP (.iaddS 2) [x39, t7] fun x40 =>
    wP (.fadd 1) [x40] fun x41 =>
    wR (.load 1 false) [x41] H fun x42 =>
    wP (.bin .eql) [x42, t2] fun x43 =>
    asB x43 fun b44 => onB b44 (wP .nilchk [t0] fun x45 =>
    wP (.fadd 1) [x45] fun x46 =>
    wR (.load 1 false) [x46] H fun x47 =>
    wP (.iaddS 2) [x47, t7] fun x48 =>
    wP (.fadd 0) [x48] fun x49 =>
    wR (.load 1 false) [x49] H fun x50 =>
    wP (.bin .lss) [x50, t1] fun x51 =>
    asB x51 fun b52 => onB b52 (wP (.bin .add) [t7, (.int .i64 1)] fun x53 =>
    atK (K .normal (mkW [(0, t0), (1, t1), (2, t2), (7, x53)]) H))
    (atK (K (.exit 0) (mkW [(0, t0), (1, t1), (2, t2), (7, t7)]) H)))
    (atK (K (.exit 0) (mkW [(0, t0), (1, t1), (2, t2), (7, t7)]) H))))
    (atK (K (.exit 0) (mkW [(0, t0), (1, t1), (2, t2), (7, t7)]) H))) := by kernel_rfl
theorem x19_12_0 (tb : Nat → Option DFn) (nv : CallF) (t0 t1 t2 t7 : Value) (H : Heap) (Q : Value → Heap → Prop) : (q19_1 tb nv Q) (.exit 0) (mkW [(0, t0), (1, t1), (2, t2), (7, t7)]) H = (
    atK (w19_18 tb nv t0 t1 t2 t7 H Q)) := by kernel_rfl
theorem e19_18 (tb : Nat → Option DFn) (nv : CallF) (t0 t1 t2 t7 : Value) (H : Heap) (Q : Value → Heap → Prop) : w19_18 tb nv t0 t1 t2 t7 H Q = (
    wA (.bslice [] [] 2 0) [] H fun x54 H55 =>
    wP .nilchk [t0] fun x56 =>
    wP (.fadd 1) [x56] fun x57 =>
    wR (.load 1 false) [x57] H55 fun x58 =>
    wP (.slcS 2 true false false) [x58, t7] fun x59 =>
    wE (.app 2 16) [x54, x59] H55 fun x60 H61 =>
    wP .nilchk [t0] fun x62 =>
    wP (.fadd 1) [x62] fun x63 =>
    wR (.load 1 false) [x63] H61 fun x64 =>
    wP (.slcS 2 false true true) [x64, t7, t7] fun x65 =>
    wP (.build [(.int .i64 0), (.int .i64 0)] [(0, 1), (1, 1)]) [t1, t2] fun x66 =>
    wA (.bslice [(.int .i64 0), (.int .i64 0)] [(0, 2)] 2 1) [x66] H61 fun x67 H68 =>
    wE (.app 2 16) [x65, x67] H68 fun x69 H70 =>
    wE (.app 2 16) [x69, x60] H70 fun x71 H72 =>
    wP .nilchk [t0] fun x73 =>
    wP (.fadd 1) [x73] fun x74 =>
    wE (.store 1) [x74, x71] H72 fun x75 H76 =>
    atK (Q (.int .i64 0) H76)) := by kernel_rfl

/-- (*tompion/tompionref06.Wheel).Remove -/
def c20_8 : C := .ret
def c20_7 : C := (.keep [4] c20_8)
def c20_6 : C := (.seq (.region [
      ⟨(some 4), (.pure .mov), [.c (.bool true)], none⟩] false) c20_7)
def c20_2 : C := (.seq (.region [
      ⟨(some 11), (.pure .mov), [.t 0], none⟩,
      ⟨(some 12), (.alloc (.bslice [] [] 2 0)), [], none⟩,
      ⟨(some 13), (.pure .mov), [.t 0], none⟩,
      ⟨(some 14), (.pure .nilchk), [.t 13], none⟩,
      ⟨(some 15), (.pure (.fadd 1)), [.t 14], none⟩,
      ⟨(some 16), (.read (.load 1 false) []), [.t 15], none⟩,
      ⟨(some 17), (.pure .mov), [.t 5], none⟩,
      ⟨(some 18), (.pure (.slcS 2 false true false)), [.t 16, .t 17], none⟩,
      ⟨(some 19), (.eff (.app 2 16)), [.t 12, .t 18], none⟩,
      ⟨(some 20), (.pure .mov), [.t 0], none⟩,
      ⟨(some 21), (.pure .nilchk), [.t 20], none⟩,
      ⟨(some 22), (.pure (.fadd 1)), [.t 21], none⟩,
      ⟨(some 23), (.read (.load 1 false) [8]), [.t 22], none⟩,
      ⟨(some 24), (.pure .mov), [.t 5], none⟩,
      ⟨(some 25), (.pure (.bin .add)), [.t 24, .c (.int .i64 (Int.ofNat 1))], none⟩,
      ⟨(some 26), (.pure (.slcS 2 true false false)), [.t 23, .t 25], none⟩,
      ⟨(some 27), (.eff (.app 2 16)), [.t 19, .t 26], none⟩,
      ⟨(some 28), (.pure .nilchk), [.t 11], none⟩,
      ⟨(some 29), (.pure (.fadd 1)), [.t 28], none⟩,
      ⟨none, (.eff (.store 1)), [.t 29, .t 27], none⟩] true) c20_6)
def c20_5 : C := .ret
def c20_4 : C := (.keep [4] c20_5)
def c20_3 : C := (.cond (.t 10) (.seq (.region [
      ⟨(some 4), (.pure .mov), [.c (.bool false)], none⟩] false) c20_4)
    .skip)
def c20_1 : C := (.seq (.seq (.region [
      ⟨(some 9), (.pure .mov), [.t 5], none⟩,
      ⟨(some 10), (.pure (.bin .lss)), [.t 9, .c (.int .i64 (Int.ofNat 0))], none⟩] false) c20_3) c20_2)
def c20_0 : C := (.seq (.region [
      ⟨(some 6), (.pure .mov), [.t 0], none⟩,
      ⟨(some 7), (.pure .mov), [.t 1], none⟩,
      ⟨(some 8), (.call 30), [.t 6, .t 7], none⟩,
      ⟨(some 5), (.pure .mov), [.t 8], none⟩] false) c20_1)
def k20 : DFn := ⟨30, (.seq (.region [
      ⟨(some 4), (.pure .mov), [.c (.bool false)], none⟩] false) c20_0), [.tmp 4]⟩
theorem c20 : (match Tryd.prog.funcs[20]? with | some fn => compileFn Tryd.prog 1 [none, none, none, none, none, some [4], none, none, some [4]] fn | none => none) = some k20 := by kernel_rfl
theorem e20 (tb : Nat → Option DFn) (nv : CallF) (a0 a1 : Value) (H : Heap) (Q : Value → Heap → Prop) : wFn tb nv k20 [a0, a1] H Q = (
    Ev tb nv 30 [a0, a1] H fun x0 H1 =>
    wP (.bin .lss) [x0, (.int .i64 0)] fun x2 =>
    asB x2 fun b3 => onB b3 (atK (Q (.bool false) H1))
    (wA (.bslice [] [] 2 0) [] H1 fun x4 H5 =>
    wP .nilchk [a0] fun x6 =>
    wP (.fadd 1) [x6] fun x7 =>
    wR (.load 1 false) [x7] H5 fun x8 =>
    wP (.slcS 2 false true false) [x8, x0] fun x9 =>
    wE (.app 2 16) [x4, x9] H5 fun x10 H11 =>
    wP .nilchk [a0] fun x12 =>
    wP (.fadd 1) [x12] fun x13 =>
    wR (.load 1 false) [x13] H11 fun x14 =>
    wP (.bin .add) [x0, (.int .i64 1)] fun x15 =>
    wP (.slcS 2 true false false) [x14, x15] fun x16 =>
    wE (.app 2 16) [x10, x16] H11 fun x17 H18 =>
    wP .nilchk [a0] fun x19 =>
    wP (.fadd 1) [x19] fun x20 =>
    wE (.store 1) [x20, x17] H18 fun x21 H22 =>
    wChk [H1, H1, H5, H5, H5, H5, H5, H5, H5, H11, H11, H11, H11, H11, H11, H11, H11, H18, H18, H18, H22] [⟨(.load 1 false), [x13], x14, [8]⟩] (atK (Q (.bool true) H22)))) := by kernel_rfl

/-- (*tompion/tompionref06.Wheel).Advance -/
def c21_17 : C := .ret
def c21_16 : C := (.keep [4] c21_17)
def c21_15 : C := (.seq (.region [
      ⟨(some 72), (.pure .mov), [.t 5], none⟩,
      ⟨(some 4), (.pure .mov), [.t 72], none⟩] false) c21_16)
def c21_14 : C := (.seq (.region [
      ⟨(some 63), (.pure .mov), [.t 0], none⟩,
      ⟨(some 64), (.pure .mov), [.t 0], none⟩,
      ⟨(some 65), (.pure .nilchk), [.t 64], none⟩,
      ⟨(some 66), (.pure (.fadd 0)), [.t 65], none⟩,
      ⟨(some 67), (.read (.load 1 false) []), [.t 66], none⟩,
      ⟨(some 68), (.pure .mov), [.t 1], none⟩,
      ⟨(some 69), (.pure .max), [.t 67, .t 68], none⟩,
      ⟨(some 70), (.pure .nilchk), [.t 63], none⟩,
      ⟨(some 71), (.pure (.fadd 0)), [.t 70], none⟩,
      ⟨none, (.eff (.store 1)), [.t 71, .t 69], none⟩] false) c21_15)
def c21_3 : C := (.keep [0, 1, 5] c21_14)
def c21_13 : C := .skip
def c21_6 : C := (.keep [0, 1, 5, 6] c21_13)
def c21_12 : C := (.region [
      ⟨(some 16), (.pure .mov), [.t 6], none⟩,
      ⟨(some 17), (.pure (.bin .add)), [.t 16, .c (.int .i64 (Int.ofNat 1))], none⟩,
      ⟨(some 6), (.pure .mov), [.t 17], none⟩] false)
def c21_10 : C := (.keep [0, 1, 5, 6] c21_12)
def c21_11 : C := (.cond (.t 42) (.region [
      ⟨(some 43), (.pure .mov), [.t 5], none⟩,
      ⟨(some 44), (.pure .mov), [.t 0], none⟩,
      ⟨(some 45), (.pure .nilchk), [.t 44], none⟩,
      ⟨(some 46), (.pure (.fadd 1)), [.t 45], none⟩,
      ⟨(some 47), (.read (.load 1 false) []), [.t 46], none⟩,
      ⟨(some 48), (.pure .mov), [.t 6], none⟩,
      ⟨(some 49), (.pure (.iaddS 2)), [.t 47, .t 48], none⟩,
      ⟨(some 50), (.pure (.fadd 1)), [.t 49], none⟩,
      ⟨(some 51), (.read (.load 1 false) []), [.t 50], none⟩,
      ⟨(some 52), (.pure .mov), [.t 0], none⟩,
      ⟨(some 53), (.pure .nilchk), [.t 52], none⟩,
      ⟨(some 54), (.pure (.fadd 1)), [.t 53], none⟩,
      ⟨(some 55), (.read (.load 1 false) []), [.t 54], none⟩,
      ⟨(some 56), (.pure .mov), [.t 6], none⟩,
      ⟨(some 57), (.pure (.iaddS 2)), [.t 55, .t 56], none⟩,
      ⟨(some 58), (.pure (.fadd 0)), [.t 57], none⟩,
      ⟨(some 59), (.read (.load 1 false) []), [.t 58], none⟩,
      ⟨(some 60), (.pure (.build [(.int .i64 (Int.ofNat 0)), (.int .i64 (Int.ofNat 0))] [(0, 1), (1, 1)])), [.t 51, .t 59], none⟩,
      ⟨(some 61), (.alloc (.bslice [(.int .i64 (Int.ofNat 0)), (.int .i64 (Int.ofNat 0))] [(0, 2)] 2 1)), [.t 60], none⟩,
      ⟨(some 62), (.eff (.app 2 16)), [.t 43, .t 61], none⟩,
      ⟨(some 5), (.pure .mov), [.t 62], none⟩] false)
    .skip)
def c21_7 : C := (.seq (.block 1 (.seq (.region [
      ⟨(some 18), (.pure .mov), [.t 0], none⟩,
      ⟨(some 19), (.pure .nilchk), [.t 18], none⟩,
      ⟨(some 20), (.pure (.fadd 1)), [.t 19], none⟩,
      ⟨(some 21), (.read (.load 1 false) []), [.t 20], none⟩,
      ⟨(some 22), (.pure .mov), [.t 6], none⟩,
      ⟨(some 23), (.pure (.iaddS 2)), [.t 21, .t 22], none⟩,
      ⟨(some 24), (.pure (.fadd 1)), [.t 23], none⟩,
      ⟨(some 25), (.read (.load 1 false) []), [.t 24], none⟩,
      ⟨(some 26), (.pure .mov), [.t 0], none⟩,
      ⟨(some 27), (.pure .nilchk), [.t 26], none⟩,
      ⟨(some 28), (.pure (.fadd 0)), [.t 27], none⟩,
      ⟨(some 29), (.read (.load 1 false) []), [.t 28], none⟩,
      ⟨(some 30), (.pure (.bin .gtr)), [.t 25, .t 29], none⟩,
      ⟨(some 31), (.pure .mov), [.t 30], none⟩,
      ⟨(some 32), (.pure .mov), [.t 0], (some (31, true))⟩,
      ⟨(some 33), (.pure .nilchk), [.t 32], (some (31, true))⟩,
      ⟨(some 34), (.pure (.fadd 1)), [.t 33], (some (31, true))⟩,
      ⟨(some 35), (.read (.load 1 false) []), [.t 34], (some (31, true))⟩,
      ⟨(some 36), (.pure .mov), [.t 6], (some (31, true))⟩,
      ⟨(some 37), (.pure (.iaddS 2)), [.t 35, .t 36], (some (31, true))⟩,
      ⟨(some 38), (.pure (.fadd 1)), [.t 37], (some (31, true))⟩,
      ⟨(some 39), (.read (.load 1 false) []), [.t 38], (some (31, true))⟩,
      ⟨(some 40), (.pure .mov), [.t 1], (some (31, true))⟩,
      ⟨(some 41), (.pure (.bin .leq)), [.t 39, .t 40], (some (31, true))⟩,
      ⟨(some 42), (.pure .pick), [.t 31, .t 41, .c (.bool false)], none⟩] false) c21_11)) c21_10)
def c21_9 : C := (.exit 0)
def c21_8 : C := (.cond (.t 15) .skip
    (.keep [0, 1, 5] c21_9))
def c21_5 : C := (.seq (.seq (.seq (.region [
      ⟨(some 9), (.pure .mov), [.t 6], none⟩,
      ⟨(some 10), (.pure .mov), [.t 0], none⟩,
      ⟨(some 11), (.pure .nilchk), [.t 10], none⟩,
      ⟨(some 12), (.pure (.fadd 1)), [.t 11], none⟩,
      ⟨(some 13), (.read (.load 1 false) []), [.t 12], none⟩,
      ⟨(some 14), (.pure .lenS), [.t 13], none⟩,
      ⟨(some 15), (.pure (.bin .lss)), [.t 9, .t 14], none⟩] false) c21_8) c21_7) c21_6)
def c21_4 : C := (.block 0 (.loop (some [0, 1, 5, 6]) c21_5))
def c21_2 : C := (.seq (.seq (.region [
      ⟨(some 6), (.pure .mov), [.c (.int .i64 (Int.ofNat 0))], none⟩] false) c21_4) c21_3)
def c21_1 : C := (.seq (.region [
      ⟨(some 5), (.pure .mov), [.c (.slice none 0 0)], none⟩] false) c21_2)
def c21_0 : C := (.seq (.region [
      ⟨(some 7), (.pure .mov), [.t 1], none⟩,
      ⟨(some 8), (.pure .min), [.t 7, .c (.int .i64 (Int.ofNat 1099511627776))], none⟩,
      ⟨(some 1), (.pure .mov), [.t 8], none⟩] false) c21_1)
def k21 : DFn := ⟨73, (.seq (.region [
      ⟨(some 4), (.pure .mov), [.c (.slice none 0 0)], none⟩] false) c21_0), [.tmp 4]⟩
theorem c21 : (match Tryd.prog.funcs[21]? with | some fn => compileFn Tryd.prog 1 [none, none, none, some [0, 1, 5], none, some [0, 1, 5, 6], none, none, some [0, 1, 5], some [0, 1, 5, 6], none, none, none, some [4]] fn | none => none) = some k21 := by kernel_rfl
def q21_0 (tb : Nat → Option DFn) (nv : CallF) (Q : Value → Heap → Prop) : Kont := kSeq (fun wf H => wC tb nv c21_3 wf H (kFn [.tmp 4] Q)) (kFn [.tmp 4] Q)
def q21_1 (tb : Nat → Option DFn) (nv : CallF) (Q : Value → Heap → Prop) : Kont := kBlk 0 (q21_0 tb nv Q)
def q21_2 (tb : Nat → Option DFn) (nv : CallF) (K : Kont) : Kont := kSeq (fun wf H => wC tb nv c21_6 wf H K) K
def w21_12 (tb : Nat → Option DFn) (nv : CallF) (t0 t1 t5 t6 : Value) (H : Heap) (K : Kont) : Prop := wC tb nv c21_12 (mkW [(0, t0), (1, t1), (5, t5), (6, t6)]) H (q21_2 tb nv K)
def w21_14 (tb : Nat → Option DFn) (nv : CallF) (t0 t1 t5 : Value) (H : Heap) (Q : Value → Heap → Prop) : Prop := wC tb nv c21_14 (mkW [(0, t0), (1, t1), (5, t5)]) H (kFn [.tmp 4] Q)
theorem e21 (tb : Nat → Option DFn) (nv : CallF) (a0 a1 : Value) (H : Heap) (Q : Value → Heap → Prop) : wFn tb nv k21 [a0, a1] H Q = (
    wP .min [a1, (.int .i64 1099511627776)] fun x0 =>
    wLoop tb nv c21_5 [0, 1, 5, 6] (mkW [(0, a0), (1, x0), (5, (.slice none 0 0)), (6, (.int .i64 0))]) H (q21_1 tb nv Q)) := by kernel_rfl
theorem l21_5 (tb : Nat → Option DFn) (nv : CallF) (t0 t1 t5 t6 : Value) (H : Heap) (K : Kont) : wC tb nv c21_5 (mkW [(0, t0), (1, t1), (5, t5), (6, t6)]) H K = (
    wP .nilchk [t0] fun x1 =>
    wP (.fadd 1) [x1] fun x2 =>
    wR (.load 1 false) [x2] H fun x3 =>
    wP .lenS [x3] fun x4 =>
    wP (.bin .lss) [t6, x4] fun x5 =>
    asB x5 fun b6 => onB b6 (wP .nilchk [t0] fun x7 =>
    wP (.fadd 1) [x7] fun x8 =>
    wR (.load 1 false) [x8] H fun x9 =>
    wP (.iaddS 2) [x9, t6] fun x10 =>
    wP (.fadd 1) [x10] fun x11 =>
    wR (.load 1 false) [x11] H fun x12 =>
    wP .nilchk [t0] fun x13 =>
    wP (.fadd 0) [x13] fun x14 =>
    wR (.load 1 false) [x14] H fun x15 =>
    wP (.bin .gtr) [x12, x15] fun x16 =>
    asB x16 fun b17 => onB b17 (wP .nilchk [t0] fun x18 =>
    wP (.fadd 1) [x18] fun x19 =>
    wR (.load 1 false) [x19] H fun x20 =>
    wP (.iaddS 2) [x20, t6] fun x21 =>
    wP (.fadd 1) [x21] fun x22 =>
    wR (.load 1 false) [x22] H fun x23 =>
    wP (.bin .leq) [x23, t1] fun x24 =>
    asB x24 fun b25 => onB b25 (wP .nilchk [t0] fun x26 =>
    wP (.fadd 1) [x26] fun x27 =>
    wR (.load 1 false) [x27] H fun x28 =>
    wP (.iaddS 2) [x28, t6] fun x29 =>
    wP (.fadd 1) [x29] fun x30 =>
    wR (.load 1 false) [x30] H fun x31 =>
    wP .nilchk [t0] fun x32 =>
    wP (.fadd 1) [x32] fun x33 =>
    wR (.load 1 false) [x33] H fun x34 =>
    wP (.iaddS 2) [x34, t6] fun x35 =>
    wP (.fadd 0) [x35] fun x36 =>
    wR (.load 1 false) [x36] H fun x37 =>
    wP (.build [(.int .i64 0), (.int .i64 0)] [(0, 1), (1, 1)]) [x31, x37] fun x38 =>
    wA (.bslice [(.int .i64 0), (.int .i64 0)] [(0, 2)] 2 1) [x38] H fun x39 H40 =>
    wE (.app 2 16) [t5, x39] H40 fun x41 H42 =>
    atK (w21_12 tb nv t0 t1 x41 t6 H42 K))
    (atK (w21_12 tb nv t0 t1 t5 t6 H K)))
    (atK (w21_12 tb nv t0 t1 t5 t6 H K)))
    (atK (K (.exit 0) (mkW [(0, t0), (1, t1), (5, t5)]) H))) := by kernel_rfl
theorem x21_5_0 (tb : Nat → Option DFn) (nv : CallF) (t0 t1 t5 : Value) (H : Heap) (Q : Value → Heap → Prop) : (q21_1 tb nv Q) (.exit 0) (mkW [(0, t0), (1, t1), (5, t5)]) H = (
    atK (w21_14 tb nv t0 t1 t5 H Q)) := by kernel_rfl
theorem e21_12 (tb : Nat → Option DFn) (nv : CallF) (t0 t1 t5 t6 : Value) (H : Heap) (K : Kont) : w21_12 tb nv t0 t1 t5 t6 H K = (
    wP (.bin .add) [t6, (.int .i64 1)] fun x43 =>
    atK (K .normal (mkW [(0, t0), (1, t1), (5, t5), (6, x43)]) H)) := by kernel_rfl
theorem e21_14 (tb : Nat → Option DFn) (nv : CallF) (t0 t1 t5 : Value) (H : Heap) (Q : Value → Heap → Prop) : w21_14 tb nv t0 t1 t5 H Q = (
    wP .nilchk [t0] fun x44 =>
    wP (.fadd 0) [x44] fun x45 =>
    wR (.load 1 false) [x45] H fun x46 =>
    wP .max [x46, t1] fun x47 =>
    wP .nilchk [t0] fun x48 =>
    wP (.fadd 0) [x48] fun x49 =>
    wE (.store 1) [x49, x47] H fun x50 H51 =>
    atK (Q t5 H51)) := by kernel_rfl

/-- (*tompion/tompionref06.Wheel).Due -/
def c22_13 : C := .ret
def c22_12 : C := (.keep [4] c22_13)
def c22_11 : C := (.seq (.region [
      ⟨(some 57), (.pure .mov), [.t 5], none⟩,
      ⟨(some 4), (.pure .mov), [.t 57], none⟩] false) c22_12)
def c22_2 : C := (.keep [5] c22_11)
def c22_10 : C := .skip
def c22_5 : C := (.keep [0, 1, 5, 6] c22_10)
def c22_9 : C := (.region [
      ⟨(some 35), (.pure .mov), [.t 6], none⟩,
      ⟨(some 36), (.pure (.bin .add)), [.t 35, .c (.int .i64 (Int.ofNat 1))], none⟩,
      ⟨(some 6), (.pure .mov), [.t 36], none⟩] false)
def c22_6 : C := (.seq (.block 1 (.region [
      ⟨(some 37), (.pure .mov), [.t 5], none⟩,
      ⟨(some 38), (.pure .mov), [.t 0], none⟩,
      ⟨(some 39), (.pure .nilchk), [.t 38], none⟩,
      ⟨(some 40), (.pure (.fadd 1)), [.t 39], none⟩,
      ⟨(some 41), (.read (.load 1 false) []), [.t 40], none⟩,
      ⟨(some 42), (.pure .mov), [.t 6], none⟩,
      ⟨(some 43), (.pure (.iaddS 2)), [.t 41, .t 42], none⟩,
      ⟨(some 44), (.pure (.fadd 1)), [.t 43], none⟩,
      ⟨(some 45), (.read (.load 1 false) []), [.t 44], none⟩,
      ⟨(some 46), (.pure .mov), [.t 0], none⟩,
      ⟨(some 47), (.pure .nilchk), [.t 46], none⟩,
      ⟨(some 48), (.pure (.fadd 1)), [.t 47], none⟩,
      ⟨(some 49), (.read (.load 1 false) []), [.t 48], none⟩,
      ⟨(some 50), (.pure .mov), [.t 6], none⟩,
      ⟨(some 51), (.pure (.iaddS 2)), [.t 49, .t 50], none⟩,
      ⟨(some 52), (.pure (.fadd 0)), [.t 51], none⟩,
      ⟨(some 53), (.read (.load 1 false) []), [.t 52], none⟩,
      ⟨(some 54), (.pure (.build [(.int .i64 (Int.ofNat 0)), (.int .i64 (Int.ofNat 0))] [(0, 1), (1, 1)])), [.t 45, .t 53], none⟩,
      ⟨(some 55), (.alloc (.bslice [(.int .i64 (Int.ofNat 0)), (.int .i64 (Int.ofNat 0))] [(0, 2)] 2 1)), [.t 54], none⟩,
      ⟨(some 56), (.eff (.app 2 16)), [.t 37, .t 55], none⟩,
      ⟨(some 5), (.pure .mov), [.t 56], none⟩] false)) c22_9)
def c22_8 : C := (.exit 0)
def c22_7 : C := (.cond (.t 34) .skip
    (.keep [5] c22_8))
def c22_4 : C := (.seq (.seq (.seq (.region [
      ⟨(some 7), (.pure .mov), [.t 6], none⟩,
      ⟨(some 8), (.pure .mov), [.t 0], none⟩,
      ⟨(some 9), (.pure .nilchk), [.t 8], none⟩,
      ⟨(some 10), (.pure (.fadd 1)), [.t 9], none⟩,
      ⟨(some 11), (.read (.load 1 false) []), [.t 10], none⟩,
      ⟨(some 12), (.pure .lenS), [.t 11], none⟩,
      ⟨(some 13), (.pure (.bin .lss)), [.t 7, .t 12], none⟩,
      ⟨(some 14), (.pure .mov), [.t 13], none⟩,
      ⟨(some 15), (.pure .mov), [.t 0], (some (14, true))⟩,
      ⟨(some 16), (.pure .nilchk), [.t 15], (some (14, true))⟩,
      ⟨(some 17), (.pure (.fadd 1)), [.t 16], (some (14, true))⟩,
      ⟨(some 18), (.read (.load 1 false) []), [.t 17], (some (14, true))⟩,
      ⟨(some 19), (.pure .mov), [.t 6], (some (14, true))⟩,
      ⟨(some 20), (.pure (.iaddS 2)), [.t 18, .t 19], (some (14, true))⟩,
      ⟨(some 21), (.pure (.fadd 1)), [.t 20], (some (14, true))⟩,
      ⟨(some 22), (.read (.load 1 false) []), [.t 21], (some (14, true))⟩,
      ⟨(some 23), (.pure .mov), [.t 0], (some (14, true))⟩,
      ⟨(some 24), (.pure .nilchk), [.t 23], (some (14, true))⟩,
      ⟨(some 25), (.pure (.fadd 0)), [.t 24], (some (14, true))⟩,
      ⟨(some 26), (.read (.load 1 false) []), [.t 25], (some (14, true))⟩,
      ⟨(some 27), (.pure (.bin .leq)), [.t 22, .t 26], (some (14, true))⟩,
      ⟨(some 28), (.pure .pick), [.t 14, .t 27, .c (.bool false)], none⟩,
      ⟨(some 29), (.pure .mov), [.t 28], none⟩,
      ⟨(some 30), (.pure .mov), [.t 5], (some (29, true))⟩,
      ⟨(some 31), (.pure .lenS), [.t 30], (some (29, true))⟩,
      ⟨(some 32), (.pure .mov), [.t 1], (some (29, true))⟩,
      ⟨(some 33), (.pure (.bin .lss)), [.t 31, .t 32], (some (29, true))⟩,
      ⟨(some 34), (.pure .pick), [.t 29, .t 33, .c (.bool false)], none⟩] false) c22_7) c22_6) c22_5)
def c22_3 : C := (.block 0 (.loop (some [0, 1, 5, 6]) c22_4))
def c22_1 : C := (.seq (.seq (.region [
      ⟨(some 6), (.pure .mov), [.c (.int .i64 (Int.ofNat 0))], none⟩] false) c22_3) c22_2)
def c22_0 : C := (.seq (.region [
      ⟨(some 5), (.pure .mov), [.c (.slice none 0 0)], none⟩] false) c22_1)
def k22 : DFn := ⟨58, (.seq (.region [
      ⟨(some 4), (.pure .mov), [.c (.slice none 0 0)], none⟩] false) c22_0), [.tmp 4]⟩
theorem c22 : (match Tryd.prog.funcs[22]? with | some fn => compileFn Tryd.prog 1 [none, none, some [5], none, some [0, 1, 5, 6], none, none, some [5], none, none, some [4]] fn | none => none) = some k22 := by kernel_rfl
def q22_0 (tb : Nat → Option DFn) (nv : CallF) (Q : Value → Heap → Prop) : Kont := kSeq (fun wf H => wC tb nv c22_2 wf H (kFn [.tmp 4] Q)) (kFn [.tmp 4] Q)
def q22_1 (tb : Nat → Option DFn) (nv : CallF) (Q : Value → Heap → Prop) : Kont := kBlk 0 (q22_0 tb nv Q)
def w22_11 (tb : Nat → Option DFn) (nv : CallF) (t5 : Value) (H : Heap) (Q : Value → Heap → Prop) : Prop := wC tb nv c22_11 (mkW [(5, t5)]) H (kFn [.tmp 4] Q)
theorem e22 (tb : Nat → Option DFn) (nv : CallF) (a0 a1 : Value) (H : Heap) (Q : Value → Heap → Prop) : wFn tb nv k22 [a0, a1] H Q = (
    wLoop tb nv c22_4 [0, 1, 5, 6] (mkW [(0, a0), (1, a1), (5, (.slice none 0 0)), (6, (.int .i64 0))]) H (q22_1 tb nv Q)) := by kernel_rfl
theorem l22_4 (tb : Nat → Option DFn) (nv : CallF) (t0 t1 t5 t6 : Value) (H : Heap) (K : Kont) : wC tb nv c22_4 (mkW [(0, t0), (1, t1), (5, t5), (6, t6)]) H K = (
    wP .nilchk [t0] fun x0 =>
    wP (.fadd 1) [x0] fun x1 =>
    wR (.load 1 false) [x1] H fun x2 =>
    wP .lenS [x2] fun x3 =>
    wP (.bin .lss) [t6, x3] fun x4 =>
    asB x4 fun b5 => onB b5 (wP .nilchk [t0] fun x6 =>
    wP (.fadd 1) [x6] fun x7 =>
    wR (.load 1 false) [x7] H fun x8 =>
    wP (.iaddS 2) [x8, t6] fun x9 =>
    wP (.fadd 1) [x9] fun x10 =>
    wR (.load 1 false) [x10] H fun x11 =>
    wP .nilchk [t0] fun x12 =>
    wP (.fadd 0) [x12] fun x13 =>
    wR (.load 1 false) [x13] H fun x14 =>
    wP (.bin .leq) [x11, x14] fun x15 =>
    asB x15 fun b16 => onB b16 (wP .lenS [t5] fun x17 =>
    wP (.bin .lss) [x17, t1] fun x18 =>
    asB x18 fun b19 => onB b19 (wP .nilchk [t0] fun x20 =>
    wP (.fadd 1) [x20] fun x21 =>
    wR (.load 1 false) [x21] H fun x22 =>
    wP (.iaddS 2) [x22, t6] fun x23 =>
    wP (.fadd 1) [x23] fun x24 =>
    wR (.load 1 false) [x24] H fun x25 =>
    wP .nilchk [t0] fun x26 =>
    wP (.fadd 1) [x26] fun x27 =>
    wR (.load 1 false) [x27] H fun x28 =>
    wP (.iaddS 2) [x28, t6] fun x29 =>
    wP (.fadd 0) [x29] fun x30 =>
    wR (.load 1 false) [x30] H fun x31 =>
    wP (.build [(.int .i64 0), (.int .i64 0)] [(0, 1), (1, 1)]) [x25, x31] fun x32 =>
    wA (.bslice [(.int .i64 0), (.int .i64 0)] [(0, 2)] 2 1) [x32] H fun x33 H34 =>
    wE (.app 2 16) [t5, x33] H34 fun x35 H36 =>
    wP (.bin .add) [t6, (.int .i64 1)] fun x37 =>
    atK (K .normal (mkW [(0, t0), (1, t1), (5, x35), (6, x37)]) H36))
    (atK (K (.exit 0) (mkW [(5, t5)]) H)))
    (atK (K (.exit 0) (mkW [(5, t5)]) H)))
    (atK (K (.exit 0) (mkW [(5, t5)]) H))) := by kernel_rfl
theorem x22_4_0 (tb : Nat → Option DFn) (nv : CallF) (t5 : Value) (H : Heap) (Q : Value → Heap → Prop) : (q22_1 tb nv Q) (.exit 0) (mkW [(5, t5)]) H = (
    atK (w22_11 tb nv t5 H Q)) := by kernel_rfl
theorem e22_11 (tb : Nat → Option DFn) (nv : CallF) (t5 : Value) (H : Heap) (Q : Value → Heap → Prop) : w22_11 tb nv t5 H Q = (
    atK (Q t5 H)) := by kernel_rfl

/-- (*tompion/wheel.Wheel).At -/
def c23_7 : C := .ret
def c23_6 : C := (.keep [4, 5] c23_7)
def c23_5 : C := (.seq (.region [
      ⟨(some 17), (.pure .mov), [.t 4], none⟩,
      ⟨(some 18), (.pure .mov), [.t 5], none⟩,
      ⟨(some 4), (.pure .mov), [.t 17], none⟩,
      ⟨(some 5), (.pure .mov), [.t 18], none⟩] false) c23_6)
def c23_1 : C := (.seq (.region [
      ⟨(some 9), (.pure .mov), [.t 0], none⟩,
      ⟨(some 10), (.pure .nilchk), [.t 9], none⟩,
      ⟨(some 11), (.pure (.fadd 1)), [.t 10], none⟩,
      ⟨(some 12), (.read (.load 1 false) []), [.t 11], none⟩,
      ⟨(some 13), (.pure .mov), [.t 1], none⟩,
      ⟨(some 14), (.read (.lookup (.one .i) (.int .i64 (Int.ofNat 0)) true) []), [.t 12, .t 13], none⟩,
      ⟨(some 8), (.pure .mov), [.t 14], none⟩,
      ⟨(some 15), (.pure (.extract 0)), [.t 8], none⟩,
      ⟨(some 16), (.pure (.extract 1)), [.t 8], none⟩,
      ⟨(some 4), (.pure .mov), [.t 15], none⟩,
      ⟨(some 5), (.pure .mov), [.t 16], none⟩] false) c23_5)
def c23_4 : C := .ret
def c23_3 : C := (.keep [4, 5] c23_4)
def c23_2 : C := (.cond (.t 7) (.seq (.region [
      ⟨(some 4), (.pure .mov), [.c (.int .i64 (Int.ofNat 0))], none⟩,
      ⟨(some 5), (.pure .mov), [.c (.bool false)], none⟩] false) c23_3)
    .skip)
def c23_0 : C := (.seq (.seq (.region [
      ⟨(some 6), (.pure .mov), [.t 0], none⟩,
      ⟨(some 7), (.pure (.nilEq false .ptr)), [.t 6], none⟩] false) c23_2) c23_1)
def k23 : DFn := ⟨19, (.seq (.region [
      ⟨(some 4), (.pure .mov), [.c (.int .i64 (Int.ofNat 0))], none⟩,
      ⟨(some 5), (.pure .mov), [.c (.bool false)], none⟩] false) c23_0), [.tmp 4, .tmp 5]⟩
theorem c23 : (match Tryd.prog.funcs[23]? with | some fn => compileFn Tryd.prog 1 [none, none, none, none, some [4, 5], none, none, some [4, 5]] fn | none => none) = some k23 := by kernel_rfl
theorem e23 (tb : Nat → Option DFn) (nv : CallF) (a0 a1 : Value) (H : Heap) (Q : Value → Heap → Prop) : wFn tb nv k23 [a0, a1] H Q = (
    wP (.nilEq false .ptr) [a0] fun x0 =>
    asB x0 fun b1 => onB b1 (atK (Q (.tuple ⟨[(.int .i64 0), (.bool false)]⟩) H))
    (wP .nilchk [a0] fun x2 =>
    wP (.fadd 1) [x2] fun x3 =>
    wR (.load 1 false) [x3] H fun x4 =>
    wR (.lookup (.one .i) (.int .i64 0) true) [x4, a1] H fun x5 =>
    wP (.extract 0) [x5] fun x6 =>
    wP (.extract 1) [x5] fun x7 =>
    atK (Q (.tuple ⟨[x6, x7]⟩) H))) := by kernel_rfl

/-- (*tompion/wheel.Wheel).put -/
def c24_5 : C := (.region [
      ⟨(some 33), (.pure .mov), [.t 6], none⟩,
      ⟨(some 34), (.pure .mov), [.t 5], none⟩,
      ⟨(some 35), (.pure .mov), [.t 6], none⟩,
      ⟨(some 36), (.pure .mov), [.t 5], none⟩,
      ⟨(some 37), (.pure .nilchk), [.t 35], none⟩,
      ⟨(some 38), (.pure (.fadd 1)), [.t 37], none⟩,
      ⟨(some 39), (.pure (.iaddA 64 1)), [.t 38, .t 36], none⟩,
      ⟨(some 40), (.read (.load 1 false) []), [.t 39], none⟩,
      ⟨(some 41), (.pure .mov), [.t 1], none⟩,
      ⟨(some 42), (.alloc (.bslice [(.int .i64 (Int.ofNat 0))] [(0, 1)] 1 1)), [.t 41], none⟩,
      ⟨(some 43), (.eff (.app 1 8)), [.t 40, .t 42], none⟩,
      ⟨(some 44), (.pure .nilchk), [.t 33], none⟩,
      ⟨(some 45), (.pure (.fadd 1)), [.t 44], none⟩,
      ⟨(some 46), (.pure (.iaddA 64 1)), [.t 45, .t 34], none⟩,
      ⟨none, (.eff (.store 1)), [.t 46, .t 43], none⟩] false)
def c24_4 : C := (.seq (.region [
      ⟨(some 24), (.pure .mov), [.t 6], none⟩,
      ⟨(some 25), (.pure .nilchk), [.t 24], none⟩,
      ⟨(some 26), (.pure (.fadd 0)), [.t 25], none⟩,
      ⟨(some 27), (.read (.load 1 false) []), [.t 26], none⟩,
      ⟨(some 28), (.pure .mov), [.t 5], none⟩,
      ⟨(some 29), (.pure (.bin .shl)), [.c (.int .u64 (Int.ofNat 1)), .t 28], none⟩,
      ⟨(some 30), (.pure (.bin .or)), [.t 27, .t 29], none⟩,
      ⟨(some 31), (.pure .nilchk), [.t 24], none⟩,
      ⟨(some 32), (.pure (.fadd 0)), [.t 31], none⟩,
      ⟨none, (.eff (.store 1)), [.t 32, .t 30], none⟩] false) c24_5)
def c24_3 : C := (.cond (.t 59) (.region [
      ⟨(some 61), (.pure .mov), [.t 0], none⟩,
      ⟨(some 62), (.pure .mov), [.t 0], none⟩,
      ⟨(some 63), (.pure .nilchk), [.t 62], none⟩,
      ⟨(some 64), (.pure (.fadd 392)), [.t 63], none⟩,
      ⟨(some 65), (.read (.load 1 false) []), [.t 64], none⟩,
      ⟨(some 66), (.pure .mov), [.t 1], none⟩,
      ⟨(some 67), (.alloc (.bslice [(.int .i64 (Int.ofNat 0))] [(0, 1)] 1 1)), [.t 66], none⟩,
      ⟨(some 68), (.eff (.app 1 8)), [.t 65, .t 67], none⟩,
      ⟨(some 69), (.pure .nilchk), [.t 61], none⟩,
      ⟨(some 70), (.pure (.fadd 392)), [.t 69], none⟩,
      ⟨none, (.eff (.store 1)), [.t 70, .t 68], none⟩] false)
    (.seq (.region [
      ⟨(some 19), (.pure .mov), [.t 0], none⟩,
      ⟨(some 20), (.pure .mov), [.t 4], none⟩,
      ⟨(some 21), (.pure .nilchk), [.t 19], none⟩,
      ⟨(some 22), (.pure (.fadd 2)), [.t 21], none⟩,
      ⟨(some 23), (.pure (.iaddA 6 65)), [.t 22, .t 20], none⟩,
      ⟨(some 6), (.pure .mov), [.t 23], none⟩] false) c24_4))
def c24_2 : C := (.cond (.t 47) (.region [
      ⟨(some 49), (.pure .mov), [.t 0], none⟩,
      ⟨(some 50), (.pure .mov), [.t 0], none⟩,
      ⟨(some 51), (.pure .nilchk), [.t 50], none⟩,
      ⟨(some 52), (.pure (.fadd 393)), [.t 51], none⟩,
      ⟨(some 53), (.read (.load 1 false) []), [.t 52], none⟩,
      ⟨(some 54), (.pure .mov), [.t 1], none⟩,
      ⟨(some 55), (.alloc (.bslice [(.int .i64 (Int.ofNat 0))] [(0, 1)] 1 1)), [.t 54], none⟩,
      ⟨(some 56), (.eff (.app 1 8)), [.t 53, .t 55], none⟩,
      ⟨(some 57), (.pure .nilchk), [.t 49], none⟩,
      ⟨(some 58), (.pure (.fadd 393)), [.t 57], none⟩,
      ⟨none, (.eff (.store 1)), [.t 58, .t 56], none⟩] false)
    (.seq (.region [
      ⟨(some 60), (.pure (.bin .eql)), [.t 18, .c (.int .i64 (Int.ofNat 6))], none⟩,
      ⟨(some 59), (.pure .mov), [.t 60], none⟩] false) c24_3))
def c24_1 : C := (.block 0 (.seq (.region [
      ⟨(some 48), (.pure (.bin .eql)), [.t 18, .c (.int .i64 (Int.negSucc 0))], none⟩,
      ⟨(some 47), (.pure .mov), [.t 48], none⟩] false) c24_2))
def c24_0 : C := (.seq (.region [
      ⟨(some 18), (.pure .mov), [.t 4], none⟩] false) c24_1)
def k24 : DFn := ⟨71, (.seq (.region [
      ⟨(some 8), (.pure .mov), [.t 0], none⟩,
      ⟨(some 9), (.pure .mov), [.t 0], none⟩,
      ⟨(some 10), (.pure .nilchk), [.t 9], none⟩,
      ⟨(some 11), (.pure (.fadd 1)), [.t 10], none⟩,
      ⟨(some 12), (.read (.load 1 false) []), [.t 11], none⟩,
      ⟨(some 13), (.pure .mov), [.t 1], none⟩,
      ⟨(some 14), (.read (.lookup (.one .i) (.int .i64 (Int.ofNat 0)) false) []), [.t 12, .t 13], none⟩,
      ⟨(some 15), (.call 25), [.t 8, .t 14], none⟩,
      ⟨(some 7), (.pure .mov), [.t 15], none⟩,
      ⟨(some 16), (.pure (.extract 0)), [.t 7], none⟩,
      ⟨(some 17), (.pure (.extract 1)), [.t 7], none⟩,
      ⟨(some 4), (.pure .mov), [.t 16], none⟩,
      ⟨(some 5), (.pure .mov), [.t 17], none⟩] false) c24_0), []⟩
theorem c24 : (match Tryd.prog.funcs[24]? with | some fn => compileFn Tryd.prog 1 [none, none, none, none, none, none] fn | none => none) = some k24 := by kernel_rfl
theorem e24 (tb : Nat → Option DFn) (nv : CallF) (a0 a1 : Value) (H : Heap) (Q : Value → Heap → Prop) : wFn tb nv k24 [a0, a1] H Q = (
    wP .nilchk [a0] fun x0 =>
    wP (.fadd 1) [x0] fun x1 =>
    wR (.load 1 false) [x1] H fun x2 =>
    wR (.lookup (.one .i) (.int .i64 0) false) [x2, a1] H fun x3 =>
    Ev tb nv 25 [a0, x3] H fun x4 H5 =>
    wP (.extract 0) [x4] fun x6 =>
    wP (.extract 1) [x4] fun x7 =>
    wP (.bin .eql) [x6, (.int .i64 (Int.negSucc 0))] fun x8 =>
    asB x8 fun b9 => onB b9 (wP .nilchk [a0] fun x10 =>
    wP (.fadd 393) [x10] fun x11 =>
    wR (.load 1 false) [x11] H5 fun x12 =>
    wA (.bslice [(.int .i64 0)] [(0, 1)] 1 1) [a1] H5 fun x13 H14 =>
    wE (.app 1 8) [x12, x13] H14 fun x15 H16 =>
    wP .nilchk [a0] fun x17 =>
    wP (.fadd 393) [x17] fun x18 =>
    wE (.store 1) [x18, x15] H16 fun x19 H20 =>
    Q (.tuple ⟨[]⟩) H20)
    (wP (.bin .eql) [x6, (.int .i64 6)] fun x21 =>
    asB x21 fun b22 => onB b22 (wP .nilchk [a0] fun x23 =>
    wP (.fadd 392) [x23] fun x24 =>
    wR (.load 1 false) [x24] H5 fun x25 =>
    wA (.bslice [(.int .i64 0)] [(0, 1)] 1 1) [a1] H5 fun x26 H27 =>
    wE (.app 1 8) [x25, x26] H27 fun x28 H29 =>
    wP .nilchk [a0] fun x30 =>
    wP (.fadd 392) [x30] fun x31 =>
    wE (.store 1) [x31, x28] H29 fun x32 H33 =>
    Q (.tuple ⟨[]⟩) H33)
    (wP .nilchk [a0] fun x34 =>
    wP (.fadd 2) [x34] fun x35 =>
    wP (.iaddA 6 65) [x35, x6] fun x36 =>
    wP .nilchk [x36] fun x37 =>
    wP (.fadd 0) [x37] fun x38 =>
    wR (.load 1 false) [x38] H5 fun x39 =>
    wP (.bin .shl) [(.int .u64 1), x7] fun x40 =>
    wP (.bin .or) [x39, x40] fun x41 =>
    wP .nilchk [x36] fun x42 =>
    wP (.fadd 0) [x42] fun x43 =>
    wE (.store 1) [x43, x41] H5 fun x44 H45 =>
    wP .nilchk [x36] fun x46 =>
    wP (.fadd 1) [x46] fun x47 =>
    wP (.iaddA 64 1) [x47, x7] fun x48 =>
    wR (.load 1 false) [x48] H45 fun x49 =>
    wA (.bslice [(.int .i64 0)] [(0, 1)] 1 1) [a1] H45 fun x50 H51 =>
    wE (.app 1 8) [x49, x50] H51 fun x52 H53 =>
    wP .nilchk [x36] fun x54 =>
    wP (.fadd 1) [x54] fun x55 =>
    wP (.iaddA 64 1) [x55, x7] fun x56 =>
    wE (.store 1) [x56, x52] H53 fun x57 H58 =>
    Q (.tuple ⟨[]⟩) H58))) := by kernel_rfl

/-- (*tompion/wheel.Wheel).place -/
def c25_11 : C := .ret
def c25_10 : C := (.keep [4, 5] c25_11)
def c25_6 : C := (.seq (.region [
      ⟨(some 24), (.pure .mov), [.t 4], none⟩,
      ⟨(some 25), (.pure .mov), [.t 1], none⟩,
      ⟨(some 26), (.pure .mov), [.t 4], none⟩,
      ⟨(some 27), (.pure (.bin .mul)), [.c (.int .i64 (Int.ofNat 6)), .t 26], none⟩,
      ⟨(some 28), (.pure (.bin .shr)), [.t 25, .t 27], none⟩,
      ⟨(some 29), (.pure (.bin .and)), [.t 28, .c (.int .i64 (Int.ofNat 63))], none⟩,
      ⟨(some 4), (.pure .mov), [.t 24], none⟩,
      ⟨(some 5), (.pure .mov), [.t 29], none⟩] false) c25_10)
def c25_9 : C := .ret
def c25_8 : C := (.keep [4, 5] c25_9)
def c25_7 : C := (.cond (.t 23) (.seq (.region [
      ⟨(some 4), (.pure .mov), [.c (.int .i64 (Int.ofNat 6))], none⟩,
      ⟨(some 5), (.pure .mov), [.c (.int .i64 (Int.ofNat 0))], none⟩] false) c25_8)
    .skip)
def c25_5 : C := (.seq (.seq (.region [
      ⟨(some 22), (.pure .mov), [.t 4], none⟩,
      ⟨(some 23), (.pure (.bin .geq)), [.t 22, .c (.int .i64 (Int.ofNat 6))], none⟩] false) c25_7) c25_6)
def c25_1 : C := (.seq (.region [
      ⟨(some 12), (.pure .mov), [.t 1], none⟩,
      ⟨(some 13), (.pure .mov), [.t 0], none⟩,
      ⟨(some 14), (.pure .nilchk), [.t 13], none⟩,
      ⟨(some 15), (.pure (.fadd 0)), [.t 14], none⟩,
      ⟨(some 16), (.read (.load 1 false) []), [.t 15], none⟩,
      ⟨(some 17), (.pure (.bin .xor)), [.t 12, .t 16], none⟩,
      ⟨(some 18), (.pure (.conv .u64)), [.t 17], none⟩,
      ⟨(some 19), (.call 31), [.t 18], none⟩,
      ⟨(some 20), (.pure (.bin .sub)), [.t 19, .c (.int .i64 (Int.ofNat 1))], none⟩,
      ⟨(some 21), (.pure (.bin .quo)), [.t 20, .c (.int .i64 (Int.ofNat 6))], none⟩,
      ⟨(some 4), (.pure .mov), [.t 21], none⟩] false) c25_5)
def c25_4 : C := .ret
def c25_3 : C := (.keep [4, 5] c25_4)
def c25_2 : C := (.cond (.t 11) (.seq (.region [
      ⟨(some 4), (.pure .mov), [.c (.int .i64 (Int.negSucc 0))], none⟩,
      ⟨(some 5), (.pure .mov), [.c (.int .i64 (Int.ofNat 0))], none⟩] false) c25_3)
    .skip)
def c25_0 : C := (.seq (.seq (.region [
      ⟨(some 6), (.pure .mov), [.t 1], none⟩,
      ⟨(some 7), (.pure .mov), [.t 0], none⟩,
      ⟨(some 8), (.pure .nilchk), [.t 7], none⟩,
      ⟨(some 9), (.pure (.fadd 0)), [.t 8], none⟩,
      ⟨(some 10), (.read (.load 1 false) []), [.t 9], none⟩,
      ⟨(some 11), (.pure (.bin .leq)), [.t 6, .t 10], none⟩] false) c25_2) c25_1)
def k25 : DFn := ⟨30, (.seq (.region [
      ⟨(some 4), (.pure .mov), [.c (.int .i64 (Int.ofNat 0))], none⟩,
      ⟨(some 5), (.pure .mov), [.c (.int .i64 (Int.ofNat 0))], none⟩] false) c25_0), [.tmp 4, .tmp 5]⟩
theorem c25 : (match Tryd.prog.funcs[25]? with | some fn => compileFn Tryd.prog 1 [none, none, none, none, some [4, 5], none, none, none, none, some [4, 5], none, some [4, 5]] fn | none => none) = some k25 := by kernel_rfl
theorem e25 (tb : Nat → Option DFn) (nv : CallF) (a0 a1 : Value) (H : Heap) (Q : Value → Heap → Prop) : wFn tb nv k25 [a0, a1] H Q = (
    wP .nilchk [a0] fun x0 =>
    wP (.fadd 0) [x0] fun x1 =>
    wR (.load 1 false) [x1] H fun x2 =>
    wP (.bin .leq) [a1, x2] fun x3 =>
    asB x3 fun b4 => onB b4 (atK (Q (.tuple ⟨[(.int .i64 (Int.negSucc 0)), (.int .i64 0)]⟩) H))
    (wP .nilchk [a0] fun x5 =>
    wP (.fadd 0) [x5] fun x6 =>
    wR (.load 1 false) [x6] H fun x7 =>
    wP (.bin .xor) [a1, x7] fun x8 =>
    wP (.conv .u64) [x8] fun x9 =>
    Ev tb nv 31 [x9] H fun x10 H11 =>
    wP (.bin .sub) [x10, (.int .i64 1)] fun x12 =>
    wP (.bin .quo) [x12, (.int .i64 6)] fun x13 =>
    wP (.bin .geq) [x13, (.int .i64 6)] fun x14 =>
    asB x14 fun b15 => onB b15 (atK (Q (.tuple ⟨[(.int .i64 6), (.int .i64 0)]⟩) H11))
    (wP (.bin .mul) [(.int .i64 6), x13] fun x16 =>
    wP (.bin .shr) [a1, x16] fun x17 =>
    wP (.bin .and) [x17, (.int .i64 63)] fun x18 =>
    atK (Q (.tuple ⟨[x13, x18]⟩) H11)))) := by kernel_rfl

end Go.Proofs.YtedeopeegicnbaaDoor.D
