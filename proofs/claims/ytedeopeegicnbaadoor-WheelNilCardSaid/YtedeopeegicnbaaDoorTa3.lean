/- The compiled functions of the seat, as the machine "D" runs them, and what each comes to (written by a program). No statement of the seat is proved in this text. -/
import Derived.Test.YtedeopeegicnbaaDoorDz
import Derived.Test.YtedeopeegicnbaaDoorProg
set_option maxRecDepth 100000
set_option linter.unusedVariables false
namespace Go.Proofs.YtedeopeegicnbaaDoor.D
open Go
/-- (*tompion/wheel.level).take -/
def c26_23 : C := .ret
def c26_22 : C := (.keep [6] c26_23)
def c26_21 : C := (.seq (.region [
      ⟨(some 58), (.pure .mov), [.t 6], none⟩,
      ⟨(some 6), (.pure .mov), [.t 58], none⟩] false) c26_22)
def c26_20 : C := (.seq (.region [
      ⟨(some 50), (.pure .mov), [.t 0], none⟩,
      ⟨(some 51), (.pure .nilchk), [.t 50], none⟩,
      ⟨(some 52), (.pure (.fadd 0)), [.t 51], none⟩,
      ⟨(some 53), (.read (.load 1 false) []), [.t 52], none⟩,
      ⟨(some 54), (.pure .mov), [.t 7], none⟩,
      ⟨(some 55), (.pure (.bin .andNot)), [.t 53, .t 54], none⟩,
      ⟨(some 56), (.pure .nilchk), [.t 50], none⟩,
      ⟨(some 57), (.pure (.fadd 0)), [.t 56], none⟩,
      ⟨none, (.eff (.store 1)), [.t 57, .t 55], none⟩] false) c26_21)
def c26_9 : C := (.keep [0, 6, 7] c26_20)
def c26_19 : C := .skip
def c26_12 : C := (.keep [0, 6, 7, 8] c26_19)
def c26_16 : C := (.region [
      ⟨(some 31), (.pure .mov), [.t 8], none⟩,
      ⟨(some 32), (.pure .mov), [.t 8], none⟩,
      ⟨(some 33), (.pure (.bin .sub)), [.t 32, .c (.int .u64 (Int.ofNat 1))], none⟩,
      ⟨(some 34), (.pure (.bin .and)), [.t 31, .t 33], none⟩,
      ⟨(some 8), (.pure .mov), [.t 34], none⟩] false)
def c26_18 : C := (.region [
      ⟨(some 45), (.pure .mov), [.t 0], none⟩,
      ⟨(some 46), (.pure .mov), [.t 9], none⟩,
      ⟨(some 47), (.pure .nilchk), [.t 45], none⟩,
      ⟨(some 48), (.pure (.fadd 1)), [.t 47], none⟩,
      ⟨(some 49), (.pure (.iaddA 64 1)), [.t 48, .t 46], none⟩,
      ⟨none, (.eff (.store 1)), [.t 49, .c (.slice none 0 0)], none⟩] false)
def c26_17 : C := (.seq (.region [
      ⟨(some 37), (.pure .mov), [.t 6], none⟩,
      ⟨(some 38), (.pure .mov), [.t 0], none⟩,
      ⟨(some 39), (.pure .mov), [.t 9], none⟩,
      ⟨(some 40), (.pure .nilchk), [.t 38], none⟩,
      ⟨(some 41), (.pure (.fadd 1)), [.t 40], none⟩,
      ⟨(some 42), (.pure (.iaddA 64 1)), [.t 41, .t 39], none⟩,
      ⟨(some 43), (.read (.load 1 false) []), [.t 42], none⟩,
      ⟨(some 44), (.eff (.app 1 8)), [.t 37, .t 43], none⟩,
      ⟨(some 6), (.pure .mov), [.t 44], none⟩] false) c26_18)
def c26_13 : C := (.seq (.block 1 (.seq (.region [
      ⟨(some 35), (.pure .mov), [.t 8], none⟩,
      ⟨(some 36), (.call 29), [.t 35], none⟩,
      ⟨(some 9), (.pure .mov), [.t 36], none⟩] false) c26_17)) c26_16)
def c26_15 : C := (.exit 0)
def c26_14 : C := (.cond (.t 30) .skip
    (.keep [0, 6, 7] c26_15))
def c26_11 : C := (.seq (.seq (.seq (.region [
      ⟨(some 29), (.pure .mov), [.t 8], none⟩,
      ⟨(some 30), (.pure (.bin .neq)), [.t 29, .c (.int .u64 (Int.ofNat 0))], none⟩] false) c26_14) c26_13) c26_12)
def c26_10 : C := (.block 0 (.loop (some [0, 6, 7, 8]) c26_11))
def c26_8 : C := (.seq (.seq (.region [
      ⟨(some 23), (.pure .mov), [.t 0], none⟩,
      ⟨(some 24), (.pure .nilchk), [.t 23], none⟩,
      ⟨(some 25), (.pure (.fadd 0)), [.t 24], none⟩,
      ⟨(some 26), (.read (.load 1 false) []), [.t 25], none⟩,
      ⟨(some 27), (.pure .mov), [.t 7], none⟩,
      ⟨(some 28), (.pure (.bin .and)), [.t 26, .t 27], none⟩,
      ⟨(some 8), (.pure .mov), [.t 28], none⟩] false) c26_10) c26_9)
def c26_6 : C := (.keep [0, 6, 7] c26_8)
def c26_7 : C := (.cond (.t 16) (.region [
      ⟨(some 17), (.pure .mov), [.t 7], none⟩,
      ⟨(some 18), (.pure .mov), [.t 2], none⟩,
      ⟨(some 19), (.pure (.bin .add)), [.t 18, .c (.int .i64 (Int.ofNat 1))], none⟩,
      ⟨(some 20), (.pure (.bin .shl)), [.c (.int .u64 (Int.ofNat 1)), .t 19], none⟩,
      ⟨(some 21), (.pure (.bin .sub)), [.t 20, .c (.int .u64 (Int.ofNat 1))], none⟩,
      ⟨(some 22), (.pure (.bin .and)), [.t 17, .t 21], none⟩,
      ⟨(some 7), (.pure .mov), [.t 22], none⟩] false)
    .skip)
def c26_5 : C := (.seq (.seq (.region [
      ⟨(some 15), (.pure .mov), [.t 2], none⟩,
      ⟨(some 16), (.pure (.bin .lss)), [.t 15, .c (.int .i64 (Int.ofNat 63))], none⟩] false) c26_7) c26_6)
def c26_1 : C := (.seq (.region [
      ⟨(some 13), (.pure .mov), [.t 1], none⟩,
      ⟨(some 14), (.pure (.bin .shl)), [.c (.int .u64 (Int.ofNat 18446744073709551615)), .t 13], none⟩,
      ⟨(some 7), (.pure .mov), [.t 14], none⟩] false) c26_5)
def c26_4 : C := .ret
def c26_3 : C := (.keep [6] c26_4)
def c26_2 : C := (.cond (.t 12) (.seq (.region [
      ⟨(some 6), (.pure .mov), [.c (.slice none 0 0)], none⟩] false) c26_3)
    .skip)
def c26_0 : C := (.seq (.seq (.region [
      ⟨(some 10), (.pure .mov), [.t 1], none⟩,
      ⟨(some 11), (.pure .mov), [.t 2], none⟩,
      ⟨(some 12), (.pure (.bin .gtr)), [.t 10, .t 11], none⟩] false) c26_2) c26_1)
def k26 : DFn := ⟨59, (.seq (.region [
      ⟨(some 6), (.pure .mov), [.c (.slice none 0 0)], none⟩] false) c26_0), [.tmp 6]⟩
theorem c26 : (match Tryd.prog.funcs[26]? with | some fn => compileFn Tryd.prog 1 [none, none, none, none, some [6], none, some [0, 6, 7], none, some [0, 6, 7], none, some [0, 6, 7, 8], none, none, some [0, 6, 7], none, none, none, none, none, some [6]] fn | none => none) = some k26 := by kernel_rfl
def q26_0 (tb : Nat → Option DFn) (nv : CallF) (Q : Value → Heap → Prop) : Kont := kSeq (fun wf H => wC tb nv c26_9 wf H (kFn [.tmp 6] Q)) (kFn [.tmp 6] Q)
def q26_1 (tb : Nat → Option DFn) (nv : CallF) (Q : Value → Heap → Prop) : Kont := kBlk 0 (q26_0 tb nv Q)
def w26_8 (tb : Nat → Option DFn) (nv : CallF) (t0 t6 t7 : Value) (H : Heap) (Q : Value → Heap → Prop) : Prop := wC tb nv c26_8 (mkW [(0, t0), (6, t6), (7, t7)]) H (kFn [.tmp 6] Q)
def w26_20 (tb : Nat → Option DFn) (nv : CallF) (t0 t6 t7 : Value) (H : Heap) (Q : Value → Heap → Prop) : Prop := wC tb nv c26_20 (mkW [(0, t0), (6, t6), (7, t7)]) H (kFn [.tmp 6] Q)
theorem e26 (tb : Nat → Option DFn) (nv : CallF) (a0 a1 a2 : Value) (H : Heap) (Q : Value → Heap → Prop) : wFn tb nv k26 [a0, a1, a2] H Q = (
    wP (.bin .gtr) [a1, a2] fun x0 =>
    asB x0 fun b1 => onB b1 (atK (Q (.slice none 0 0) H))
    (wP (.bin .shl) [(.int .u64 18446744073709551615), a1] fun x2 =>
    wP (.bin .lss) [a2, (.int .i64 63)] fun x3 =>
    asB x3 fun b4 => onB b4 (wP (.bin .add) [a2, (.int .i64 1)] fun x5 =>
    wP (.bin .shl) [(.int .u64 1), x5] fun x6 =>
    wP (.bin .sub) [x6, (.int .u64 1)] fun x7 =>
    wP (.bin .and) [x2, x7] fun x8 =>
    atK (w26_8 tb nv a0 (.slice none 0 0) x8 H Q))
    (atK (w26_8 tb nv a0 (.slice none 0 0) x2 H Q)))) := by kernel_rfl
theorem e26_8 (tb : Nat → Option DFn) (nv : CallF) (t0 t6 t7 : Value) (H : Heap) (Q : Value → Heap → Prop) : w26_8 tb nv t0 t6 t7 H Q = (
    wP .nilchk [t0] fun x9 =>
    wP (.fadd 0) [x9] fun x10 =>
    wR (.load 1 false) [x10] H fun x11 =>
    wP (.bin .and) [x11, t7] fun x12 =>
    wLoop tb nv c26_11 [0, 6, 7, 8] (mkW [(0, t0), (6, t6), (7, t7), (8, x12)]) H (q26_1 tb nv Q)) := by kernel_rfl
theorem l26_11 (tb : Nat → Option DFn) (nv : CallF) (t0 t6 t7 t8 : Value) (H : Heap) (K : Kont) : wC tb nv c26_11 (mkW [(0, t0), (6, t6), (7, t7), (8, t8)]) H K = (
    wP (.bin .neq) [t8, (.int .u64 0)] fun x13 =>
    asB x13 fun b14 => onB b14 (Ev tb nv 29 [t8] H fun x15 H16 =>
    wP .nilchk [t0] fun x17 =>
    wP (.fadd 1) [x17] fun x18 =>
    wP (.iaddA 64 1) [x18, x15] fun x19 =>
    wR (.load 1 false) [x19] H16 fun x20 =>
    wE (.app 1 8) [t6, x20] H16 fun x21 H22 =>
    wP .nilchk [t0] fun x23 =>
    wP (.fadd 1) [x23] fun x24 =>
    wP (.iaddA 64 1) [x24, x15] fun x25 =>
    wE (.store 1) [x25, (.slice none 0 0)] H22 fun x26 H27 =>
    wP (.bin .sub) [t8, (.int .u64 1)] fun x28 =>
    wP (.bin .and) [t8, x28] fun x29 =>
    atK (K .normal (mkW [(0, t0), (6, x21), (7, t7), (8, x29)]) H27))
    (atK (K (.exit 0) (mkW [(0, t0), (6, t6), (7, t7)]) H))) := by kernel_rfl
theorem x26_11_0 (tb : Nat → Option DFn) (nv : CallF) (t0 t6 t7 : Value) (H : Heap) (Q : Value → Heap → Prop) : (q26_1 tb nv Q) (.exit 0) (mkW [(0, t0), (6, t6), (7, t7)]) H = (
    atK (w26_20 tb nv t0 t6 t7 H Q)) := by kernel_rfl
theorem e26_20 (tb : Nat → Option DFn) (nv : CallF) (t0 t6 t7 : Value) (H : Heap) (Q : Value → Heap → Prop) : w26_20 tb nv t0 t6 t7 H Q = (
    wP .nilchk [t0] fun x30 =>
    wP (.fadd 0) [x30] fun x31 =>
    wR (.load 1 false) [x31] H fun x32 =>
    wP (.bin .andNot) [x32, t7] fun x33 =>
    wP .nilchk [t0] fun x34 =>
    wP (.fadd 0) [x34] fun x35 =>
    wE (.store 1) [x35, x33] H fun x36 H37 =>
    atK (Q t6 H37)) := by kernel_rfl

/-- (*tompion/wheel.Wheel).pairs -/
def c27_14 : C := .ret
def c27_13 : C := (.keep [4] c27_14)
def c27_12 : C := (.seq (.region [
      ⟨(some 27), (.pure .mov), [.t 4], none⟩,
      ⟨(some 4), (.pure .mov), [.t 27], none⟩] false) c27_13)
def c27_11 : C := (.seq (.region [
      ⟨(some 25), (.pure .mov), [.t 4], none⟩,
      ⟨(some 26), (.call 32), [.t 25, .c (.func (.func 33) ⟨[]⟩ ⟨[]⟩)], none⟩] false) c27_12)
def c27_1 : C := (.keep [4] c27_11)
def c27_10 : C := .skip
def c27_4 : C := (.keep [0, 4, 7, 8, 9] c27_10)
def c27_8 : C := (.region [
      ⟨(some 24), (.pure (.bin .add)), [.t 9, .c (.int .i64 (Int.ofNat 1))], none⟩,
      ⟨(some 9), (.pure .mov), [.t 24], none⟩] false)
def c27_9 : C := (.region [
      ⟨(some 13), (.pure .mov), [.t 4], none⟩,
      ⟨(some 14), (.pure .mov), [.t 0], none⟩,
      ⟨(some 15), (.pure .nilchk), [.t 14], none⟩,
      ⟨(some 16), (.pure (.fadd 1)), [.t 15], none⟩,
      ⟨(some 17), (.read (.load 1 false) []), [.t 16], none⟩,
      ⟨(some 18), (.pure .mov), [.t 6], none⟩,
      ⟨(some 19), (.read (.lookup (.one .i) (.int .i64 (Int.ofNat 0)) false) []), [.t 17, .t 18], none⟩,
      ⟨(some 20), (.pure .mov), [.t 6], none⟩,
      ⟨(some 21), (.pure (.build [(.int .i64 (Int.ofNat 0)), (.int .i64 (Int.ofNat 0))] [(0, 1), (1, 1)])), [.t 19, .t 20], none⟩,
      ⟨(some 22), (.alloc (.bslice [(.int .i64 (Int.ofNat 0)), (.int .i64 (Int.ofNat 0))] [(0, 2)] 2 1)), [.t 21], none⟩,
      ⟨(some 23), (.eff (.app 2 16)), [.t 13, .t 22], none⟩,
      ⟨(some 4), (.pure .mov), [.t 23], none⟩] false)
def c27_6 : C := (.seq (.block 1 (.seq (.region [
      ⟨(some 11), (.pure (.iaddS 1)), [.t 7, .t 9], none⟩,
      ⟨(some 12), (.read (.load 1 false) []), [.t 11], none⟩,
      ⟨(some 6), (.pure .mov), [.t 12], none⟩] false) c27_9)) c27_8)
def c27_7 : C := (.exit 0)
def c27_5 : C := (.seq (.cond (.t 10) .skip
    (.keep [4] c27_7)) c27_6)
def c27_3 : C := (.seq (.seq (.region [
      ⟨(some 10), (.pure (.bin .lss)), [.t 9, .t 8], none⟩] false) c27_5) c27_4)
def c27_2 : C := (.block 0 (.loop (some [0, 4, 7, 8, 9]) c27_3))
def c27_0 : C := (.seq (.seq (.region [
      ⟨(some 7), (.pure .mov), [.t 1], none⟩,
      ⟨(some 8), (.pure .lenS), [.t 7], none⟩,
      ⟨(some 9), (.pure .mov), [.c (.int .i64 (Int.ofNat 0))], none⟩] false) c27_2) c27_1)
def k27 : DFn := ⟨28, (.seq (.region [
      ⟨(some 4), (.pure .mov), [.c (.slice none 0 0)], none⟩] false) c27_0), [.tmp 4]⟩
theorem c27 : (match Tryd.prog.funcs[27]? with | some fn => compileFn Tryd.prog 1 [none, some [4], none, some [0, 4, 7, 8, 9], none, none, some [4], none, none, none, none, some [4]] fn | none => none) = some k27 := by kernel_rfl
def q27_0 (tb : Nat → Option DFn) (nv : CallF) (Q : Value → Heap → Prop) : Kont := kSeq (fun wf H => wC tb nv c27_1 wf H (kFn [.tmp 4] Q)) (kFn [.tmp 4] Q)
def q27_1 (tb : Nat → Option DFn) (nv : CallF) (Q : Value → Heap → Prop) : Kont := kBlk 0 (q27_0 tb nv Q)
def w27_11 (tb : Nat → Option DFn) (nv : CallF) (t4 : Value) (H : Heap) (Q : Value → Heap → Prop) : Prop := wC tb nv c27_11 (mkW [(4, t4)]) H (kFn [.tmp 4] Q)
theorem e27 (tb : Nat → Option DFn) (nv : CallF) (a0 a1 : Value) (H : Heap) (Q : Value → Heap → Prop) : wFn tb nv k27 [a0, a1] H Q = (
    wP .lenS [a1] fun x0 =>
    wLoop tb nv c27_3 [0, 4, 7, 8, 9] (mkW [(0, a0), (4, (.slice none 0 0)), (7, a1), (8, x0), (9, (.int .i64 0))]) H (q27_1 tb nv Q)) := by kernel_rfl
theorem l27_3 (tb : Nat → Option DFn) (nv : CallF) (t0 t4 t7 t8 t9 : Value) (H : Heap) (K : Kont) : wC tb nv c27_3 (mkW [(0, t0), (4, t4), (7, t7), (8, t8), (9, t9)]) H K = (
    wP (.bin .lss) [t9, t8] fun x1 =>
    asB x1 fun b2 => onB b2 (wP (.iaddS 1) [t7, t9] fun x3 =>
    wR (.load 1 false) [x3] H fun x4 =>
    wP .nilchk [t0] fun x5 =>
    wP (.fadd 1) [x5] fun x6 =>
    wR (.load 1 false) [x6] H fun x7 =>
    wR (.lookup (.one .i) (.int .i64 0) false) [x7, x4] H fun x8 =>
    wP (.build [(.int .i64 0), (.int .i64 0)] [(0, 1), (1, 1)]) [x8, x4] fun x9 =>
    wA (.bslice [(.int .i64 0), (.int .i64 0)] [(0, 2)] 2 1) [x9] H fun x10 H11 =>
    wE (.app 2 16) [t4, x10] H11 fun x12 H13 =>
    wP (.bin .add) [t9, (.int .i64 1)] fun x14 =>
    atK (K .normal (mkW [(0, t0), (4, x12), (7, t7), (8, t8), (9, x14)]) H13))
    (atK (K (.exit 0) (mkW [(4, t4)]) H))) := by kernel_rfl
theorem x27_3_0 (tb : Nat → Option DFn) (nv : CallF) (t4 : Value) (H : Heap) (Q : Value → Heap → Prop) : (q27_1 tb nv Q) (.exit 0) (mkW [(4, t4)]) H = (
    atK (w27_11 tb nv t4 H Q)) := by kernel_rfl
theorem e27_11 (tb : Nat → Option DFn) (nv : CallF) (t4 : Value) (H : Heap) (Q : Value → Heap → Prop) : w27_11 tb nv t4 H Q = (
    Ev tb nv 32 [t4, (.func (.func 33) ⟨[]⟩ ⟨[]⟩)] H fun x15 H16 =>
    atK (Q t4 H16)) := by kernel_rfl

/-- tompion/wheel.without -/
def c28_2 : C := .ret
def c28_1 : C := (.keep [4] c28_2)
def c28_0 : C := (.seq (.region [
      ⟨(some 5), (.pure .mov), [.t 0], none⟩,
      ⟨(some 6), (.pure (.func (.func 37) 0)), [.t 3], none⟩,
      ⟨(some 7), (.call 36), [.t 5, .t 6], none⟩,
      ⟨(some 4), (.pure .mov), [.t 7], none⟩] false) c28_1)
def k28 : DFn := ⟨8, (.seq (.region [
      ⟨(some 3), (.alloc .box), [.t 1], none⟩,
      ⟨(some 4), (.pure .mov), [.c (.slice none 0 0)], none⟩] false) c28_0), [.tmp 4]⟩
theorem c28 : (match Tryd.prog.funcs[28]? with | some fn => compileFn Tryd.prog 1 [none, none, some [4]] fn | none => none) = some k28 := by kernel_rfl
theorem e28 (tb : Nat → Option DFn) (nv : CallF) (a0 a1 : Value) (H : Heap) (Q : Value → Heap → Prop) : wFn tb nv k28 [a0, a1] H Q = (
    wA .box [a1] H fun x0 H1 =>
    wP (.func (.func 37) 0) [x0] fun x2 =>
    Ev tb nv 36 [a0, x2] H1 fun x3 H4 =>
    atK (Q x3 H4)) := by kernel_rfl

/-- math/bits.TrailingZeros64 -/
def c29_6 : C := .ret
def c29_5 : C := (.keep [2] c29_6)
def c29_1 : C := (.seq (.region [
      ⟨(some 5), (.pure .mov), [.t 0], none⟩,
      ⟨(some 6), (.pure .mov), [.t 0], none⟩,
      ⟨(some 7), (.pure (.un .neg)), [.t 6], none⟩,
      ⟨(some 8), (.pure (.bin .and)), [.t 5, .t 7], none⟩,
      ⟨(some 9), (.pure (.bin .mul)), [.t 8, .c (.int .u64 (Int.ofNat 285870213051353865))], none⟩,
      ⟨(some 10), (.pure (.bin .shr)), [.t 9, .c (.int .u64 (Int.ofNat 58))], none⟩,
      ⟨(some 11), (.pure (.iaddA 64 1)), [.c (.pointer (some ⟨0, 0, some 0⟩)), .t 10], none⟩,
      ⟨(some 12), (.read (.load 1 false) []), [.t 11], none⟩,
      ⟨(some 13), (.pure (.conv .i64)), [.t 12], none⟩,
      ⟨(some 2), (.pure .mov), [.t 13], none⟩] false) c29_5)
def c29_4 : C := .ret
def c29_3 : C := (.keep [2] c29_4)
def c29_2 : C := (.cond (.t 4) (.seq (.region [
      ⟨(some 2), (.pure .mov), [.c (.int .i64 (Int.ofNat 64))], none⟩] false) c29_3)
    .skip)
def c29_0 : C := (.seq (.seq (.region [
      ⟨(some 3), (.pure .mov), [.t 0], none⟩,
      ⟨(some 4), (.pure (.bin .eql)), [.t 3, .c (.int .u64 (Int.ofNat 0))], none⟩] false) c29_2) c29_1)
def k29 : DFn := ⟨14, (.seq (.region [
      ⟨(some 2), (.pure .mov), [.c (.int .i64 (Int.ofNat 0))], none⟩] false) c29_0), [.tmp 2]⟩
theorem c29 : (match Tryd.prog.funcs[29]? with | some fn => compileFn Tryd.prog 1 [none, none, none, none, some [2], none, some [2]] fn | none => none) = some k29 := by kernel_rfl
theorem e29 (tb : Nat → Option DFn) (nv : CallF) (a0 : Value) (H : Heap) (Q : Value → Heap → Prop) : wFn tb nv k29 [a0] H Q = (
    wP (.bin .eql) [a0, (.int .u64 0)] fun x0 =>
    asB x0 fun b1 => onB b1 (atK (Q (.int .i64 64) H))
    (wP (.un .neg) [a0] fun x2 =>
    wP (.bin .and) [a0, x2] fun x3 =>
    wP (.bin .mul) [x3, (.int .u64 285870213051353865)] fun x4 =>
    wP (.bin .shr) [x4, (.int .u64 58)] fun x5 =>
    wP (.iaddA 64 1) [(.pointer (some ⟨0, 0, some 0⟩)), x5] fun x6 =>
    wR (.load 1 false) [x6] H fun x7 =>
    wP (.conv .i64) [x7] fun x8 =>
    atK (Q x8 H))) := by kernel_rfl

/-- (*tompion/tompionref06.Wheel).find -/
def c30_15 : C := .ret
def c30_14 : C := (.keep [4] c30_15)
def c30_13 : C := (.seq (.region [
      ⟨(some 4), (.pure .mov), [.c (.int .i64 (Int.negSucc 0))], none⟩] false) c30_14)
def c30_1 : C := (.keep [] c30_13)
def c30_12 : C := .skip
def c30_4 : C := (.keep [0, 1, 5] c30_12)
def c30_8 : C := (.region [
      ⟨(some 13), (.pure .mov), [.t 5], none⟩,
      ⟨(some 14), (.pure (.bin .add)), [.t 13, .c (.int .i64 (Int.ofNat 1))], none⟩,
      ⟨(some 5), (.pure .mov), [.t 14], none⟩] false)
def c30_11 : C := .ret
def c30_10 : C := (.keep [4] c30_11)
def c30_9 : C := (.cond (.t 24) (.seq (.region [
      ⟨(some 25), (.pure .mov), [.t 5], none⟩,
      ⟨(some 4), (.pure .mov), [.t 25], none⟩] false) c30_10)
    .skip)
def c30_5 : C := (.seq (.block 1 (.seq (.region [
      ⟨(some 15), (.pure .mov), [.t 0], none⟩,
      ⟨(some 16), (.pure .nilchk), [.t 15], none⟩,
      ⟨(some 17), (.pure (.fadd 1)), [.t 16], none⟩,
      ⟨(some 18), (.read (.load 1 false) []), [.t 17], none⟩,
      ⟨(some 19), (.pure .mov), [.t 5], none⟩,
      ⟨(some 20), (.pure (.iaddS 2)), [.t 18, .t 19], none⟩,
      ⟨(some 21), (.pure (.fadd 0)), [.t 20], none⟩,
      ⟨(some 22), (.read (.load 1 false) []), [.t 21], none⟩,
      ⟨(some 23), (.pure .mov), [.t 1], none⟩,
      ⟨(some 24), (.pure (.bin .eql)), [.t 22, .t 23], none⟩] false) c30_9)) c30_8)
def c30_7 : C := (.exit 0)
def c30_6 : C := (.cond (.t 12) .skip
    (.keep [] c30_7))
def c30_3 : C := (.seq (.seq (.seq (.region [
      ⟨(some 6), (.pure .mov), [.t 5], none⟩,
      ⟨(some 7), (.pure .mov), [.t 0], none⟩,
      ⟨(some 8), (.pure .nilchk), [.t 7], none⟩,
      ⟨(some 9), (.pure (.fadd 1)), [.t 8], none⟩,
      ⟨(some 10), (.read (.load 1 false) []), [.t 9], none⟩,
      ⟨(some 11), (.pure .lenS), [.t 10], none⟩,
      ⟨(some 12), (.pure (.bin .lss)), [.t 6, .t 11], none⟩] false) c30_6) c30_5) c30_4)
def c30_2 : C := (.block 0 (.loop (some [0, 1, 5]) c30_3))
def c30_0 : C := (.seq (.seq (.region [
      ⟨(some 5), (.pure .mov), [.c (.int .i64 (Int.ofNat 0))], none⟩] false) c30_2) c30_1)
def k30 : DFn := ⟨26, (.seq (.region [
      ⟨(some 4), (.pure .mov), [.c (.int .i64 (Int.ofNat 0))], none⟩] false) c30_0), [.tmp 4]⟩
theorem c30 : (match Tryd.prog.funcs[30]? with | some fn => compileFn Tryd.prog 1 [none, some [], none, some [0, 1, 5], none, none, some [], none, none, none, some [4], none, some [4]] fn | none => none) = some k30 := by kernel_rfl
def q30_0 (tb : Nat → Option DFn) (nv : CallF) (Q : Value → Heap → Prop) : Kont := kSeq (fun wf H => wC tb nv c30_1 wf H (kFn [.tmp 4] Q)) (kFn [.tmp 4] Q)
def q30_1 (tb : Nat → Option DFn) (nv : CallF) (Q : Value → Heap → Prop) : Kont := kBlk 0 (q30_0 tb nv Q)
def w30_13 (tb : Nat → Option DFn) (nv : CallF) (H : Heap) (Q : Value → Heap → Prop) : Prop := wC tb nv c30_13 (mkW []) H (kFn [.tmp 4] Q)
theorem e30 (tb : Nat → Option DFn) (nv : CallF) (a0 a1 : Value) (H : Heap) (Q : Value → Heap → Prop) : wFn tb nv k30 [a0, a1] H Q = (
    wLoop tb nv c30_3 [0, 1, 5] (mkW [(0, a0), (1, a1), (5, (.int .i64 0))]) H (q30_1 tb nv Q)) := by kernel_rfl
theorem l30_3 (tb : Nat → Option DFn) (nv : CallF) (t0 t1 t5 : Value) (H : Heap) (K : Kont) : wC tb nv c30_3 (mkW [(0, t0), (1, t1), (5, t5)]) H K = (
    wP .nilchk [t0] fun x0 =>
    wP (.fadd 1) [x0] fun x1 =>
    wR (.load 1 false) [x1] H fun x2 =>
    wP .lenS [x2] fun x3 =>
    wP (.bin .lss) [t5, x3] fun x4 =>
    asB x4 fun b5 => onB b5 (wP .nilchk [t0] fun x6 =>
    wP (.fadd 1) [x6] fun x7 =>
    wR (.load 1 false) [x7] H fun x8 =>
    wP (.iaddS 2) [x8, t5] fun x9 =>
    wP (.fadd 0) [x9] fun x10 =>
    wR (.load 1 false) [x10] H fun x11 =>
    wP (.bin .eql) [x11, t1] fun x12 =>
    asB x12 fun b13 => onB b13 (atK (K .ret (mkW [(4, t5)]) H))
    (wP (.bin .add) [t5, (.int .i64 1)] fun x14 =>
    atK (K .normal (mkW [(0, t0), (1, t1), (5, x14)]) H)))
    (atK (K (.exit 0) (mkW []) H))) := by kernel_rfl
theorem x30_3_0 (tb : Nat → Option DFn) (nv : CallF) (t4 : Value) (H : Heap) (Q : Value → Heap → Prop) : (q30_1 tb nv Q) .ret (mkW [(4, t4)]) H = (
    Q t4 H) := by kernel_rfl
theorem x30_3_1 (tb : Nat → Option DFn) (nv : CallF) (H : Heap) (Q : Value → Heap → Prop) : (q30_1 tb nv Q) (.exit 0) (mkW []) H = (
    atK (w30_13 tb nv  H Q)) := by kernel_rfl
theorem e30_13 (tb : Nat → Option DFn) (nv : CallF) (H : Heap) (Q : Value → Heap → Prop) : w30_13 tb nv  H Q = (
    atK (Q (.int .i64 (Int.negSucc 0)) H)) := by kernel_rfl

/-- math/bits.Len64 -/
def c31_14 : C := .ret
def c31_13 : C := (.keep [2] c31_14)
def c31_12 : C := (.seq (.region [
      ⟨(some 19), (.pure .mov), [.t 2], none⟩,
      ⟨(some 20), (.pure .mov), [.t 0], none⟩,
      ⟨(some 21), (.pure (.conv .u8)), [.t 20], none⟩,
      ⟨(some 22), (.pure .idxStr), [.c (.string ⟨⟨[0, 1, 2, 2, 3, 3, 3, 3, 4, 4, 4, 4, 4, 4, 4, 4, 5, 5, 5, 5, 5, 5, 5, 5, 5, 5, 5, 5, 5, 5, 5, 5, 6, 6, 6, 6, 6, 6, 6, 6, 6, 6, 6, 6, 6, 6, 6, 6, 6, 6, 6, 6, 6, 6, 6, 6, 6, 6, 6, 6, 6, 6, 6, 6, 7, 7, 7, 7, 7, 7, 7, 7, 7, 7, 7, 7, 7, 7, 7, 7, 7, 7, 7, 7, 7, 7, 7, 7, 7, 7, 7, 7, 7, 7, 7, 7, 7, 7, 7, 7, 7, 7, 7, 7, 7, 7, 7, 7, 7, 7, 7, 7, 7, 7, 7, 7, 7, 7, 7, 7, 7, 7, 7, 7, 7, 7, 7, 7, 8, 8, 8, 8, 8, 8, 8, 8, 8, 8, 8, 8, 8, 8, 8, 8, 8, 8, 8, 8, 8, 8, 8, 8, 8, 8, 8, 8, 8, 8, 8, 8, 8, 8, 8, 8, 8, 8, 8, 8, 8, 8, 8, 8, 8, 8, 8, 8, 8, 8, 8, 8, 8, 8, 8, 8, 8, 8, 8, 8, 8, 8, 8, 8, 8, 8, 8, 8, 8, 8, 8, 8, 8, 8, 8, 8, 8, 8, 8, 8, 8, 8, 8, 8, 8, 8, 8, 8, 8, 8, 8, 8, 8, 8, 8, 8, 8, 8, 8, 8, 8, 8, 8, 8, 8, 8, 8, 8, 8, 8, 8, 8, 8, 8, 8, 8, 8, 8, 8, 8, 8, 8, 8, 8, 8, 8, 8, 8]⟩⟩), .t 21], none⟩,
      ⟨(some 23), (.pure (.conv .i64)), [.t 22], none⟩,
      ⟨(some 24), (.pure (.bin .add)), [.t 19, .t 23], none⟩,
      ⟨(some 2), (.pure .mov), [.t 24], none⟩] false) c31_13)
def c31_9 : C := (.keep [0, 2] c31_12)
def c31_11 : C := (.region [
      ⟨(some 17), (.pure .mov), [.t 2], none⟩,
      ⟨(some 18), (.pure (.bin .add)), [.t 17, .c (.int .i64 (Int.ofNat 8))], none⟩,
      ⟨(some 2), (.pure .mov), [.t 18], none⟩] false)
def c31_10 : C := (.cond (.t 14) (.seq (.region [
      ⟨(some 15), (.pure .mov), [.t 0], none⟩,
      ⟨(some 16), (.pure (.bin .shr)), [.t 15, .c (.int .u64 (Int.ofNat 8))], none⟩,
      ⟨(some 0), (.pure .mov), [.t 16], none⟩] false) c31_11)
    .skip)
def c31_8 : C := (.seq (.seq (.region [
      ⟨(some 13), (.pure .mov), [.t 0], none⟩,
      ⟨(some 14), (.pure (.bin .geq)), [.t 13, .c (.int .u64 (Int.ofNat 256))], none⟩] false) c31_10) c31_9)
def c31_5 : C := (.keep [0, 2] c31_8)
def c31_7 : C := (.region [
      ⟨(some 11), (.pure .mov), [.t 2], none⟩,
      ⟨(some 12), (.pure (.bin .add)), [.t 11, .c (.int .i64 (Int.ofNat 16))], none⟩,
      ⟨(some 2), (.pure .mov), [.t 12], none⟩] false)
def c31_6 : C := (.cond (.t 8) (.seq (.region [
      ⟨(some 9), (.pure .mov), [.t 0], none⟩,
      ⟨(some 10), (.pure (.bin .shr)), [.t 9, .c (.int .u64 (Int.ofNat 16))], none⟩,
      ⟨(some 0), (.pure .mov), [.t 10], none⟩] false) c31_7)
    .skip)
def c31_4 : C := (.seq (.seq (.region [
      ⟨(some 7), (.pure .mov), [.t 0], none⟩,
      ⟨(some 8), (.pure (.bin .geq)), [.t 7, .c (.int .u64 (Int.ofNat 65536))], none⟩] false) c31_6) c31_5)
def c31_1 : C := (.keep [0, 2] c31_4)
def c31_3 : C := (.region [
      ⟨(some 2), (.pure .mov), [.c (.int .i64 (Int.ofNat 32))], none⟩] false)
def c31_2 : C := (.cond (.t 4) (.seq (.region [
      ⟨(some 5), (.pure .mov), [.t 0], none⟩,
      ⟨(some 6), (.pure (.bin .shr)), [.t 5, .c (.int .u64 (Int.ofNat 32))], none⟩,
      ⟨(some 0), (.pure .mov), [.t 6], none⟩] false) c31_3)
    .skip)
def c31_0 : C := (.seq (.seq (.region [
      ⟨(some 3), (.pure .mov), [.t 0], none⟩,
      ⟨(some 4), (.pure (.bin .geq)), [.t 3, .c (.int .u64 (Int.ofNat 4294967296))], none⟩] false) c31_2) c31_1)
def k31 : DFn := ⟨25, (.seq (.region [
      ⟨(some 2), (.pure .mov), [.c (.int .i64 (Int.ofNat 0))], none⟩] false) c31_0), [.tmp 2]⟩
theorem c31 : (match Tryd.prog.funcs[31]? with | some fn => compileFn Tryd.prog 1 [none, some [0, 2], none, none, some [0, 2], none, none, some [0, 2], none, none, none, some [2]] fn | none => none) = some k31 := by kernel_rfl
def w31_4 (tb : Nat → Option DFn) (nv : CallF) (t0 t2 : Value) (H : Heap) (Q : Value → Heap → Prop) : Prop := wC tb nv c31_4 (mkW [(0, t0), (2, t2)]) H (kFn [.tmp 2] Q)
def w31_8 (tb : Nat → Option DFn) (nv : CallF) (t0 t2 : Value) (H : Heap) (Q : Value → Heap → Prop) : Prop := wC tb nv c31_8 (mkW [(0, t0), (2, t2)]) H (kFn [.tmp 2] Q)
def w31_12 (tb : Nat → Option DFn) (nv : CallF) (t0 t2 : Value) (H : Heap) (Q : Value → Heap → Prop) : Prop := wC tb nv c31_12 (mkW [(0, t0), (2, t2)]) H (kFn [.tmp 2] Q)
theorem e31 (tb : Nat → Option DFn) (nv : CallF) (a0 : Value) (H : Heap) (Q : Value → Heap → Prop) : wFn tb nv k31 [a0] H Q = (
    wP (.bin .geq) [a0, (.int .u64 4294967296)] fun x0 =>
    asB x0 fun b1 => onB b1 (wP (.bin .shr) [a0, (.int .u64 32)] fun x2 =>
    atK (w31_4 tb nv x2 (.int .i64 32) H Q))
    (atK (w31_4 tb nv a0 (.int .i64 0) H Q))) := by kernel_rfl
theorem e31_4 (tb : Nat → Option DFn) (nv : CallF) (t0 t2 : Value) (H : Heap) (Q : Value → Heap → Prop) : w31_4 tb nv t0 t2 H Q = (
    wP (.bin .geq) [t0, (.int .u64 65536)] fun x3 =>
    asB x3 fun b4 => onB b4 (wP (.bin .shr) [t0, (.int .u64 16)] fun x5 =>
    wP (.bin .add) [t2, (.int .i64 16)] fun x6 =>
    atK (w31_8 tb nv x5 x6 H Q))
    (atK (w31_8 tb nv t0 t2 H Q))) := by kernel_rfl
theorem e31_8 (tb : Nat → Option DFn) (nv : CallF) (t0 t2 : Value) (H : Heap) (Q : Value → Heap → Prop) : w31_8 tb nv t0 t2 H Q = (
    wP (.bin .geq) [t0, (.int .u64 256)] fun x7 =>
    asB x7 fun b8 => onB b8 (wP (.bin .shr) [t0, (.int .u64 8)] fun x9 =>
    wP (.bin .add) [t2, (.int .i64 8)] fun x10 =>
    atK (w31_12 tb nv x9 x10 H Q))
    (atK (w31_12 tb nv t0 t2 H Q))) := by kernel_rfl
theorem e31_12 (tb : Nat → Option DFn) (nv : CallF) (t0 t2 : Value) (H : Heap) (Q : Value → Heap → Prop) : w31_12 tb nv t0 t2 H Q = (
    wP (.conv .u8) [t0] fun x11 =>
    wP .idxStr [(.string ⟨⟨[0, 1, 2, 2, 3, 3, 3, 3, 4, 4, 4, 4, 4, 4, 4, 4, 5, 5, 5, 5, 5, 5, 5, 5, 5, 5, 5, 5, 5, 5, 5, 5, 6, 6, 6, 6, 6, 6, 6, 6, 6, 6, 6, 6, 6, 6, 6, 6, 6, 6, 6, 6, 6, 6, 6, 6, 6, 6, 6, 6, 6, 6, 6, 6, 7, 7, 7, 7, 7, 7, 7, 7, 7, 7, 7, 7, 7, 7, 7, 7, 7, 7, 7, 7, 7, 7, 7, 7, 7, 7, 7, 7, 7, 7, 7, 7, 7, 7, 7, 7, 7, 7, 7, 7, 7, 7, 7, 7, 7, 7, 7, 7, 7, 7, 7, 7, 7, 7, 7, 7, 7, 7, 7, 7, 7, 7, 7, 7, 8, 8, 8, 8, 8, 8, 8, 8, 8, 8, 8, 8, 8, 8, 8, 8, 8, 8, 8, 8, 8, 8, 8, 8, 8, 8, 8, 8, 8, 8, 8, 8, 8, 8, 8, 8, 8, 8, 8, 8, 8, 8, 8, 8, 8, 8, 8, 8, 8, 8, 8, 8, 8, 8, 8, 8, 8, 8, 8, 8, 8, 8, 8, 8, 8, 8, 8, 8, 8, 8, 8, 8, 8, 8, 8, 8, 8, 8, 8, 8, 8, 8, 8, 8, 8, 8, 8, 8, 8, 8, 8, 8, 8, 8, 8, 8, 8, 8, 8, 8, 8, 8, 8, 8, 8, 8, 8, 8, 8, 8, 8, 8, 8, 8, 8, 8, 8, 8, 8, 8, 8, 8, 8, 8, 8, 8, 8, 8]⟩⟩), x11] fun x12 =>
    wP (.conv .i64) [x12] fun x13 =>
    wP (.bin .add) [t2, x13] fun x14 =>
    atK (Q x14 H)) := by kernel_rfl

/-- slices.SortFunc[[][2]int,[2]int] -/
def c32_0 : C := (.region [
      ⟨(some 7), (.pure .mov), [.t 0], none⟩,
      ⟨(some 8), (.pure .mov), [.t 4], none⟩,
      ⟨(some 9), (.pure .mov), [.t 4], none⟩,
      ⟨(some 10), (.pure (.conv .u64)), [.t 9], none⟩,
      ⟨(some 11), (.call 39), [.t 10], none⟩,
      ⟨(some 12), (.pure .mov), [.t 1], none⟩,
      ⟨(some 13), (.call 38), [.t 7, .c (.int .i64 (Int.ofNat 0)), .t 8, .t 11, .t 12], none⟩] false)
def k32 : DFn := ⟨14, (.seq (.region [
      ⟨(some 5), (.pure .mov), [.t 0], none⟩,
      ⟨(some 6), (.pure .lenS), [.t 5], none⟩,
      ⟨(some 4), (.pure .mov), [.t 6], none⟩] false) c32_0), []⟩
theorem c32 : (match Tryd.prog.funcs[32]? with | some fn => compileFn Tryd.prog 1 [none] fn | none => none) = some k32 := by kernel_rfl
theorem e32 (tb : Nat → Option DFn) (nv : CallF) (a0 a1 : Value) (H : Heap) (Q : Value → Heap → Prop) : wFn tb nv k32 [a0, a1] H Q = (
    wP .lenS [a0] fun x0 =>
    wP (.conv .u64) [x0] fun x1 =>
    Ev tb nv 39 [x1] H fun x2 H3 =>
    Ev tb nv 38 [a0, (.int .i64 0), x0, x2, a1] H3 fun x4 H5 =>
    Q (.tuple ⟨[]⟩) H5) := by kernel_rfl

/-- (*tompion/wheel.Wheel).pairs$1 -/
def c33_2 : C := .ret
def c33_1 : C := (.keep [4] c33_2)
def c33_0 : C := (.seq (.region [
      ⟨(some 5), (.pure (.iaddA 2 1)), [.t 2, .c (.int .i64 (Int.ofNat 0))], none⟩,
      ⟨(some 6), (.read (.load 1 false) []), [.t 5], none⟩,
      ⟨(some 7), (.pure (.iaddA 2 1)), [.t 3, .c (.int .i64 (Int.ofNat 0))], none⟩,
      ⟨(some 8), (.read (.load 1 false) []), [.t 7], none⟩,
      ⟨(some 9), (.call 35), [.t 6, .t 8], none⟩,
      ⟨(some 10), (.pure (.iaddA 2 1)), [.t 2, .c (.int .i64 (Int.ofNat 1))], none⟩,
      ⟨(some 11), (.read (.load 1 false) [4]), [.t 10], none⟩,
      ⟨(some 12), (.pure (.iaddA 2 1)), [.t 3, .c (.int .i64 (Int.ofNat 1))], none⟩,
      ⟨(some 13), (.read (.load 1 false) [4]), [.t 12], none⟩,
      ⟨(some 14), (.call 35), [.t 11, .t 13], none⟩,
      ⟨(some 15), (.alloc (.bslice [(.int .i64 (Int.ofNat 0)), (.int .i64 (Int.ofNat 0))] [(0, 1), (1, 1)] 1 2)), [.t 9, .t 14], none⟩,
      ⟨(some 16), (.call 34), [.t 15], none⟩,
      ⟨(some 4), (.pure .mov), [.t 16], none⟩] true) c33_1)
def k33 : DFn := ⟨17, (.seq (.region [
      ⟨(some 2), (.alloc .box), [.t 0], none⟩,
      ⟨(some 3), (.alloc .box), [.t 1], none⟩,
      ⟨(some 4), (.pure .mov), [.c (.int .i64 (Int.ofNat 0))], none⟩] false) c33_0), [.tmp 4]⟩
theorem c33 : (match Tryd.prog.funcs[33]? with | some fn => compileFn Tryd.prog 1 [none, none, some [4]] fn | none => none) = some k33 := by kernel_rfl
theorem e33 (tb : Nat → Option DFn) (nv : CallF) (a0 a1 : Value) (H : Heap) (Q : Value → Heap → Prop) : wFn tb nv k33 [a0, a1] H Q = (
    wA .box [a0] H fun x0 H1 =>
    wA .box [a1] H1 fun x2 H3 =>
    wP (.iaddA 2 1) [x0, (.int .i64 0)] fun x4 =>
    wR (.load 1 false) [x4] H3 fun x5 =>
    wP (.iaddA 2 1) [x2, (.int .i64 0)] fun x6 =>
    wR (.load 1 false) [x6] H3 fun x7 =>
    Ev tb nv 35 [x5, x7] H3 fun x8 H9 =>
    wP (.iaddA 2 1) [x0, (.int .i64 1)] fun x10 =>
    wR (.load 1 false) [x10] H9 fun x11 =>
    wP (.iaddA 2 1) [x2, (.int .i64 1)] fun x12 =>
    wR (.load 1 false) [x12] H9 fun x13 =>
    Ev tb nv 35 [x11, x13] H9 fun x14 H15 =>
    wA (.bslice [(.int .i64 0), (.int .i64 0)] [(0, 1), (1, 1)] 1 2) [x8, x14] H15 fun x16 H17 =>
    Ev tb nv 34 [x16] H17 fun x18 H19 =>
    wChk [H3, H3, H3, H3, H3, H9, H9, H9, H9, H9, H15, H17, H19, H19] [⟨(.load 1 false), [x10], x11, [4]⟩, ⟨(.load 1 false), [x12], x13, [4]⟩] (atK (Q x18 H19))) := by kernel_rfl

end Go.Proofs.YtedeopeegicnbaaDoor.D
