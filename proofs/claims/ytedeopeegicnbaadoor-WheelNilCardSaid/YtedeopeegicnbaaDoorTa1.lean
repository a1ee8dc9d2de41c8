/- The compiled functions of the seat, as the machine "D" runs them, and what each comes to (written by a program). No statement of the seat is proved in this text. -/
import Derived.Test.YtedeopeegicnbaaDoorDz
import Derived.Test.YtedeopeegicnbaaDoorProg
set_option maxRecDepth 100000
set_option linter.unusedVariables false
namespace Go.Proofs.YtedeopeegicnbaaDoor.D
open Go
/-- (*tompion/wheel.Wheel).Set -/
def c10_17 : C := .ret
def c10_16 : C := (.keep [6] c10_17)
def c10_15 : C := (.seq (.region [
      ⟨(some 6), (.pure .mov), [.c (.int .i64 (Int.ofNat 0))], none⟩] false) c10_16)
def c10_14 : C := (.seq (.region [
      ⟨(some 55), (.pure .mov), [.t 0], none⟩,
      ⟨(some 56), (.pure .mov), [.t 1], none⟩,
      ⟨(some 57), (.call 24), [.t 55, .t 56], none⟩] false) c10_15)
def c10_13 : C := (.seq (.region [
      ⟨(some 49), (.pure .mov), [.t 0], none⟩,
      ⟨(some 50), (.pure .nilchk), [.t 49], none⟩,
      ⟨(some 51), (.pure (.fadd 1)), [.t 50], none⟩,
      ⟨(some 52), (.read (.load 1 false) []), [.t 51], none⟩,
      ⟨(some 53), (.pure .mov), [.t 1], none⟩,
      ⟨(some 54), (.pure .mov), [.t 2], none⟩,
      ⟨none, (.eff (.mupd (.one .i))), [.t 52, .t 53, .t 54], none⟩] false) c10_14)
def c10_8 : C := (.seq (.region [
      ⟨(some 46), (.pure .mov), [.t 0], none⟩,
      ⟨(some 47), (.pure .mov), [.t 1], none⟩,
      ⟨(some 48), (.call 16), [.t 46, .t 47], none⟩] false) c10_13)
def c10_12 : C := .ret
def c10_11 : C := (.keep [6] c10_12)
def c10_10 : C := (.cond (.t 45) (.seq (.region [
      ⟨(some 6), (.pure .mov), [.c (.int .i64 (Int.ofNat 5))], none⟩] false) c10_11)
    .skip)
def c10_9 : C := (.seq (.region [
      ⟨(some 36), (.pure .mov), [.t 8], none⟩,
      ⟨(some 37), (.pure (.un .not)), [.t 36], none⟩,
      ⟨(some 38), (.pure .mov), [.t 37], none⟩,
      ⟨(some 39), (.pure .mov), [.t 0], (some (38, true))⟩,
      ⟨(some 40), (.pure .nilchk), [.t 39], (some (38, true))⟩,
      ⟨(some 41), (.pure (.fadd 1)), [.t 40], (some (38, true))⟩,
      ⟨(some 42), (.read (.load 1 false) []), [.t 41], (some (38, true))⟩,
      ⟨(some 43), (.read .mlen []), [.t 42], (some (38, true))⟩,
      ⟨(some 44), (.pure (.bin .geq)), [.t 43, .c (.int .i64 (Int.ofNat 1000))], (some (38, true))⟩,
      ⟨(some 45), (.pure .pick), [.t 38, .t 44, .c (.bool false)], none⟩] false) c10_10)
def c10_1 : C := (.seq (.seq (.region [
      ⟨(some 28), (.pure .mov), [.t 0], none⟩,
      ⟨(some 29), (.pure .nilchk), [.t 28], none⟩,
      ⟨(some 30), (.pure (.fadd 1)), [.t 29], none⟩,
      ⟨(some 31), (.read (.load 1 false) []), [.t 30], none⟩,
      ⟨(some 32), (.pure .mov), [.t 1], none⟩,
      ⟨(some 33), (.read (.lookup (.one .i) (.int .i64 (Int.ofNat 0)) true) []), [.t 31, .t 32], none⟩,
      ⟨(some 27), (.pure .mov), [.t 33], none⟩,
      ⟨(some 34), (.pure (.extract 0)), [.t 27], none⟩,
      ⟨(some 35), (.pure (.extract 1)), [.t 27], none⟩,
      ⟨(some 7), (.pure .mov), [.t 34], none⟩,
      ⟨(some 8), (.pure .mov), [.t 35], none⟩] false) c10_9) c10_8)
def c10_4 : C := .ret
def c10_3 : C := (.keep [6] c10_4)
def c10_7 : C := .ret
def c10_6 : C := (.keep [6] c10_7)
def c10_5 : C := (.cond (.t 12) (.seq (.region [
      ⟨(some 6), (.pure .mov), [.c (.int .i64 (Int.ofNat 1))], none⟩] false) c10_6)
    .skip)
def c10_2 : C := (.cond (.t 9) (.seq (.region [
      ⟨(some 6), (.pure .mov), [.c (.int .i64 (Int.ofNat 12))], none⟩] false) c10_3)
    (.seq (.region [
      ⟨(some 13), (.pure .mov), [.t 1], none⟩,
      ⟨(some 14), (.pure (.bin .lss)), [.t 13, .c (.int .i64 (Int.ofNat 0))], none⟩,
      ⟨(some 15), (.pure .mov), [.t 14], none⟩,
      ⟨(some 16), (.pure .mov), [.t 1], (some (15, false))⟩,
      ⟨(some 17), (.pure (.bin .gtr)), [.t 16, .c (.int .i64 (Int.ofNat 1048576))], (some (15, false))⟩,
      ⟨(some 18), (.pure .pick), [.t 15, .c (.bool true), .t 17], none⟩,
      ⟨(some 19), (.pure .mov), [.t 18], none⟩,
      ⟨(some 20), (.pure .mov), [.t 2], (some (19, false))⟩,
      ⟨(some 21), (.pure (.bin .lss)), [.t 20, .c (.int .i64 (Int.ofNat 0))], (some (19, false))⟩,
      ⟨(some 22), (.pure .pick), [.t 19, .c (.bool true), .t 21], none⟩,
      ⟨(some 23), (.pure .mov), [.t 22], none⟩,
      ⟨(some 24), (.pure .mov), [.t 2], (some (23, false))⟩,
      ⟨(some 25), (.pure (.bin .gtr)), [.t 24, .c (.int .i64 (Int.ofNat 1099511627776))], (some (23, false))⟩,
      ⟨(some 26), (.pure .pick), [.t 23, .c (.bool true), .t 25], none⟩,
      ⟨(some 12), (.pure .mov), [.t 26], none⟩] false) c10_5))
def c10_0 : C := (.seq (.block 0 (.seq (.region [
      ⟨(some 10), (.pure .mov), [.t 0], none⟩,
      ⟨(some 11), (.pure (.nilEq false .ptr)), [.t 10], none⟩,
      ⟨(some 9), (.pure .mov), [.t 11], none⟩] false) c10_2)) c10_1)
def k10 : DFn := ⟨58, (.seq (.region [
      ⟨(some 6), (.pure .mov), [.c (.int .i64 (Int.ofNat 0))], none⟩] false) c10_0), [.tmp 6]⟩
theorem c10 : (match Tryd.prog.funcs[10]? with | some fn => compileFn Tryd.prog 1 [none, none, none, none, some [6], none, none, some [6], none, none, none, none, some [6], none, none, none, none, some [6]] fn | none => none) = some k10 := by kernel_rfl
theorem e10 (tb : Nat → Option DFn) (nv : CallF) (a0 a1 a2 : Value) (H : Heap) (Q : Value → Heap → Prop) : wFn tb nv k10 [a0, a1, a2] H Q = (
    wP (.nilEq false .ptr) [a0] fun x0 =>
    asB x0 fun b1 => onB b1 (atK (Q (.int .i64 12) H))
    (wP (.bin .lss) [a1, (.int .i64 0)] fun x2 =>
    asB x2 fun b3 => onB b3 (atK (Q (.int .i64 1) H))
    (wP (.bin .gtr) [a1, (.int .i64 1048576)] fun x4 =>
    asB x4 fun b5 => onB b5 (atK (Q (.int .i64 1) H))
    (wP (.bin .lss) [a2, (.int .i64 0)] fun x6 =>
    asB x6 fun b7 => onB b7 (atK (Q (.int .i64 1) H))
    (wP (.bin .gtr) [a2, (.int .i64 1099511627776)] fun x8 =>
    asB x8 fun b9 => onB b9 (atK (Q (.int .i64 1) H))
    (wP .nilchk [a0] fun x10 =>
    wP (.fadd 1) [x10] fun x11 =>
    wR (.load 1 false) [x11] H fun x12 =>
    wR (.lookup (.one .i) (.int .i64 0) true) [x12, a1] H fun x13 =>
    wP (.extract 0) [x13] fun x14 =>
    wP (.extract 1) [x13] fun x15 =>
    wP (.un .not) [x15] fun x16 =>
    asB x16 fun b17 => onB b17 (wP .nilchk [a0] fun x18 =>
    wP (.fadd 1) [x18] fun x19 =>
    wR (.load 1 false) [x19] H fun x20 =>
    wR .mlen [x20] H fun x21 =>
    wP (.bin .geq) [x21, (.int .i64 1000)] fun x22 =>
    asB x22 fun b23 => onB b23 (atK (Q (.int .i64 5) H))
    (Ev tb nv 16 [a0, a1] H fun x24 H25 =>
    wP .nilchk [a0] fun x26 =>
    wP (.fadd 1) [x26] fun x27 =>
    wR (.load 1 false) [x27] H25 fun x28 =>
    wE (.mupd (.one .i)) [x28, a1, a2] H25 fun x29 H30 =>
    Ev tb nv 24 [a0, a1] H30 fun x31 H32 =>
    atK (Q (.int .i64 0) H32)))
    (Ev tb nv 16 [a0, a1] H fun x33 H34 =>
    wP .nilchk [a0] fun x35 =>
    wP (.fadd 1) [x35] fun x36 =>
    wR (.load 1 false) [x36] H34 fun x37 =>
    wE (.mupd (.one .i)) [x37, a1, a2] H34 fun x38 H39 =>
    Ev tb nv 24 [a0, a1] H39 fun x40 H41 =>
    atK (Q (.int .i64 0) H41)))))))) := by kernel_rfl

/-- (*tompion/wheel.Wheel).Advance -/
def c11_43 : C := .ret
def c11_42 : C := (.keep [4] c11_43)
def c11_41 : C := (.seq (.region [
      ⟨(some 99), (.pure .mov), [.t 0], none⟩,
      ⟨(some 100), (.pure .mov), [.t 0], none⟩,
      ⟨(some 101), (.pure .nilchk), [.t 100], none⟩,
      ⟨(some 102), (.pure (.fadd 393)), [.t 101], none⟩,
      ⟨(some 103), (.read (.load 1 false) []), [.t 102], none⟩,
      ⟨(some 104), (.pure .mov), [.t 10], none⟩,
      ⟨(some 105), (.pure (.slcS 1 true false false)), [.t 103, .t 104], none⟩,
      ⟨(some 106), (.call 27), [.t 99, .t 105], none⟩,
      ⟨(some 4), (.pure .mov), [.t 106], none⟩] false) c11_42)
def c11_31 : C := (.keep [0, 10] c11_41)
def c11_40 : C := .skip
def c11_34 : C := (.keep [0, 10, 89, 90, 91] c11_40)
def c11_38 : C := (.region [
      ⟨(some 98), (.pure (.bin .add)), [.t 91, .c (.int .i64 (Int.ofNat 1))], none⟩,
      ⟨(some 91), (.pure .mov), [.t 98], none⟩] false)
def c11_39 : C := (.region [
      ⟨(some 95), (.pure .mov), [.t 0], none⟩,
      ⟨(some 96), (.pure .mov), [.t 12], none⟩,
      ⟨(some 97), (.call 24), [.t 95, .t 96], none⟩] false)
def c11_36 : C := (.seq (.block 4 (.seq (.region [
      ⟨(some 93), (.pure (.iaddS 1)), [.t 89, .t 91], none⟩,
      ⟨(some 94), (.read (.load 1 false) []), [.t 93], none⟩,
      ⟨(some 12), (.pure .mov), [.t 94], none⟩] false) c11_39)) c11_38)
def c11_37 : C := (.exit 3)
def c11_35 : C := (.seq (.cond (.t 92) .skip
    (.keep [0, 10] c11_37)) c11_36)
def c11_33 : C := (.seq (.seq (.region [
      ⟨(some 92), (.pure (.bin .lss)), [.t 91, .t 90], none⟩] false) c11_35) c11_34)
def c11_32 : C := (.block 3 (.loop (some [0, 10, 89, 90, 91]) c11_33))
def c11_30 : C := (.seq (.seq (.region [
      ⟨(some 89), (.pure .mov), [.t 7], none⟩,
      ⟨(some 90), (.pure .lenS), [.t 89], none⟩,
      ⟨(some 91), (.pure .mov), [.c (.int .i64 (Int.ofNat 0))], none⟩] false) c11_32) c11_31)
def c11_29 : C := (.seq (.region [
      ⟨(some 84), (.pure .mov), [.t 0], none⟩,
      ⟨(some 85), (.pure .nilchk), [.t 84], none⟩,
      ⟨(some 86), (.pure (.fadd 393)), [.t 85], none⟩,
      ⟨(some 87), (.read (.load 1 false) []), [.t 86], none⟩,
      ⟨(some 88), (.pure .lenS), [.t 87], none⟩,
      ⟨(some 10), (.pure .mov), [.t 88], none⟩] false) c11_30)
def c11_28 : C := (.seq (.region [
      ⟨(some 80), (.pure .mov), [.t 0], none⟩,
      ⟨(some 81), (.pure .mov), [.t 1], none⟩,
      ⟨(some 82), (.pure .nilchk), [.t 80], none⟩,
      ⟨(some 83), (.pure (.fadd 0)), [.t 82], none⟩,
      ⟨none, (.eff (.store 1)), [.t 83, .t 81], none⟩] false) c11_29)
def c11_25 : C := (.keep [0, 1, 7] c11_28)
def c11_27 : C := (.region [
      ⟨(some 77), (.pure .mov), [.t 0], none⟩,
      ⟨(some 78), (.pure .nilchk), [.t 77], none⟩,
      ⟨(some 79), (.pure (.fadd 392)), [.t 78], none⟩,
      ⟨none, (.eff (.store 1)), [.t 79, .c (.slice none 0 0)], none⟩] false)
def c11_26 : C := (.cond (.t 70) (.seq (.region [
      ⟨(some 71), (.pure .mov), [.t 7], none⟩,
      ⟨(some 72), (.pure .mov), [.t 0], none⟩,
      ⟨(some 73), (.pure .nilchk), [.t 72], none⟩,
      ⟨(some 74), (.pure (.fadd 392)), [.t 73], none⟩,
      ⟨(some 75), (.read (.load 1 false) []), [.t 74], none⟩,
      ⟨(some 76), (.eff (.app 1 8)), [.t 71, .t 75], none⟩,
      ⟨(some 7), (.pure .mov), [.t 76], none⟩] false) c11_27)
    .skip)
def c11_24 : C := (.seq (.seq (.region [
      ⟨(some 69), (.pure .mov), [.t 5], none⟩,
      ⟨(some 70), (.pure (.bin .eql)), [.t 69, .c (.int .i64 (Int.ofNat 6))], none⟩] false) c11_26) c11_25)
def c11_9 : C := (.keep [0, 1, 5, 7] c11_24)
def c11_23 : C := .skip
def c11_12 : C := (.keep [0, 1, 5, 7, 31] c11_23)
def c11_22 : C := (.region [
      ⟨(some 68), (.pure (.bin .add)), [.t 31, .c (.int .i64 (Int.ofNat 1))], none⟩,
      ⟨(some 31), (.pure .mov), [.t 68], none⟩] false)
def c11_16 : C := (.keep [0, 1, 5, 7, 31] c11_22)
def c11_20 : C := (.exit 0)
def c11_21 : C := (.cond (.t 60) (.region [
      ⟨(some 64), (.pure .mov), [.t 7], none⟩,
      ⟨(some 65), (.pure .mov), [.t 9], none⟩,
      ⟨(some 66), (.call 26), [.t 65, .c (.int .i64 (Int.ofNat 0)), .c (.int .i64 (Int.ofNat 63))], none⟩,
      ⟨(some 67), (.eff (.app 1 8)), [.t 64, .t 66], none⟩,
      ⟨(some 7), (.pure .mov), [.t 67], none⟩] false)
    (.region [
      ⟨(some 39), (.pure .mov), [.t 7], none⟩,
      ⟨(some 40), (.pure .mov), [.t 9], none⟩,
      ⟨(some 41), (.pure .mov), [.t 0], none⟩,
      ⟨(some 42), (.pure .nilchk), [.t 41], none⟩,
      ⟨(some 43), (.pure (.fadd 0)), [.t 42], none⟩,
      ⟨(some 44), (.read (.load 1 false) []), [.t 43], none⟩,
      ⟨(some 45), (.pure .mov), [.t 8], none⟩,
      ⟨(some 46), (.pure (.bin .mul)), [.c (.int .i64 (Int.ofNat 6)), .t 45], none⟩,
      ⟨(some 47), (.pure (.bin .shr)), [.t 44, .t 46], none⟩,
      ⟨(some 48), (.pure (.bin .and)), [.t 47, .c (.int .i64 (Int.ofNat 63))], none⟩,
      ⟨(some 49), (.pure .mov), [.t 1], none⟩,
      ⟨(some 50), (.pure .mov), [.t 8], none⟩,
      ⟨(some 51), (.pure (.bin .mul)), [.c (.int .i64 (Int.ofNat 6)), .t 50], none⟩,
      ⟨(some 52), (.pure (.bin .shr)), [.t 49, .t 51], none⟩,
      ⟨(some 53), (.pure (.bin .and)), [.t 52, .c (.int .i64 (Int.ofNat 63))], none⟩,
      ⟨(some 54), (.call 26), [.t 40, .t 48, .t 53], none⟩,
      ⟨(some 55), (.eff (.app 1 8)), [.t 39, .t 54], none⟩,
      ⟨(some 7), (.pure .mov), [.t 55], none⟩] false))
def c11_19 : C := (.cond (.t 56) (.keep [0, 1, 5, 7] c11_20)
    (.seq (.region [
      ⟨(some 61), (.pure .mov), [.t 8], none⟩,
      ⟨(some 62), (.pure .mov), [.t 5], none⟩,
      ⟨(some 63), (.pure (.bin .lss)), [.t 61, .t 62], none⟩,
      ⟨(some 60), (.pure .mov), [.t 63], none⟩] false) c11_21))
def c11_18 : C := (.block 2 (.seq (.region [
      ⟨(some 57), (.pure .mov), [.t 8], none⟩,
      ⟨(some 58), (.pure .mov), [.t 5], none⟩,
      ⟨(some 59), (.pure (.bin .gtr)), [.t 57, .t 58], none⟩,
      ⟨(some 56), (.pure .mov), [.t 59], none⟩] false) c11_19))
def c11_17 : C := (.seq (.region [
      ⟨(some 34), (.pure .mov), [.t 0], none⟩,
      ⟨(some 35), (.pure .mov), [.t 8], none⟩,
      ⟨(some 36), (.pure .nilchk), [.t 34], none⟩,
      ⟨(some 37), (.pure (.fadd 2)), [.t 36], none⟩,
      ⟨(some 38), (.pure (.iaddA 6 65)), [.t 37, .t 35], none⟩,
      ⟨(some 9), (.pure .mov), [.t 38], none⟩] false) c11_18)
def c11_14 : C := (.seq (.block 1 (.seq (.region [
      ⟨(some 33), (.pure .mov), [.t 31], none⟩,
      ⟨(some 8), (.pure .mov), [.t 33], none⟩] false) c11_17)) c11_16)
def c11_15 : C := (.exit 0)
def c11_13 : C := (.seq (.cond (.t 32) .skip
    (.keep [0, 1, 5, 7] c11_15)) c11_14)
def c11_11 : C := (.seq (.seq (.region [
      ⟨(some 32), (.pure (.bin .lss)), [.t 31, .c (.int .i64 (Int.ofNat 6))], none⟩] false) c11_13) c11_12)
def c11_10 : C := (.block 0 (.loop (some [0, 1, 5, 7, 31]) c11_11))
def c11_8 : C := (.seq (.seq (.region [
      ⟨(some 31), (.pure .mov), [.c (.int .i64 (Int.ofNat 0))], none⟩] false) c11_10) c11_9)
def c11_7 : C := (.seq .skip c11_8)
def c11_6 : C := (.seq (.region [
      ⟨(some 7), (.pure .mov), [.c (.slice none 0 0)], none⟩] false) c11_7)
def c11_5 : C := (.seq (.region [
      ⟨(some 26), (.pure .mov), [.t 0], none⟩,
      ⟨(some 27), (.pure .mov), [.t 1], none⟩,
      ⟨(some 28), (.call 25), [.t 26, .t 27], none⟩,
      ⟨(some 25), (.pure .mov), [.t 28], none⟩,
      ⟨(some 29), (.pure (.extract 0)), [.t 25], none⟩,
      ⟨(some 30), (.pure (.extract 1)), [.t 25], none⟩,
      ⟨(some 5), (.pure .mov), [.t 29], none⟩,
      ⟨(some 6), (.pure .mov), [.t 30], none⟩] false) c11_6)
def c11_1 : C := (.seq (.region [
      ⟨(some 23), (.pure .mov), [.t 1], none⟩,
      ⟨(some 24), (.pure .min), [.t 23, .c (.int .i64 (Int.ofNat 1099511627776))], none⟩,
      ⟨(some 1), (.pure .mov), [.t 24], none⟩] false) c11_5)
def c11_4 : C := .ret
def c11_3 : C := (.keep [4] c11_4)
def c11_2 : C := (.cond (.t 22) (.seq (.region [
      ⟨(some 4), (.pure .mov), [.c (.slice none 0 0)], none⟩] false) c11_3)
    .skip)
def c11_0 : C := (.seq (.seq (.region [
      ⟨(some 13), (.pure .mov), [.t 0], none⟩,
      ⟨(some 14), (.pure (.nilEq false .ptr)), [.t 13], none⟩,
      ⟨(some 15), (.pure .mov), [.t 14], none⟩,
      ⟨(some 16), (.pure .mov), [.t 1], (some (15, false))⟩,
      ⟨(some 17), (.pure .mov), [.t 0], (some (15, false))⟩,
      ⟨(some 18), (.pure .nilchk), [.t 17], (some (15, false))⟩,
      ⟨(some 19), (.pure (.fadd 0)), [.t 18], (some (15, false))⟩,
      ⟨(some 20), (.read (.load 1 false) []), [.t 19], (some (15, false))⟩,
      ⟨(some 21), (.pure (.bin .leq)), [.t 16, .t 20], (some (15, false))⟩,
      ⟨(some 22), (.pure .pick), [.t 15, .c (.bool true), .t 21], none⟩] false) c11_2) c11_1)
def k11 : DFn := ⟨107, (.seq (.region [
      ⟨(some 4), (.pure .mov), [.c (.slice none 0 0)], none⟩] false) c11_0), [.tmp 4]⟩
theorem c11 : (match Tryd.prog.funcs[11]? with | some fn => compileFn Tryd.prog 1 [none, none, none, none, some [4], none, none, none, none, some [0, 1, 5, 7], none, some [0, 1, 5, 7, 31], none, none, some [0, 1, 5, 7], some [0, 1, 5, 7, 31], none, none, none, some [0, 1, 5, 7], none, some [0, 1, 7], none, none, none, none, some [0, 10], none, some [0, 10, 89, 90, 91], none, none, some [0, 10], none, none, none, some [4]] fn | none => none) = some k11 := by kernel_rfl
def q11_0 (tb : Nat → Option DFn) (nv : CallF) (Q : Value → Heap → Prop) : Kont := kSeq (fun wf H => wC tb nv c11_9 wf H (kFn [.tmp 4] Q)) (kFn [.tmp 4] Q)
def q11_1 (tb : Nat → Option DFn) (nv : CallF) (Q : Value → Heap → Prop) : Kont := kBlk 0 (q11_0 tb nv Q)
def q11_2 (tb : Nat → Option DFn) (nv : CallF) (K : Kont) : Kont := kSeq (fun wf H => wC tb nv c11_12 wf H K) K
def q11_3 (tb : Nat → Option DFn) (nv : CallF) (Q : Value → Heap → Prop) : Kont := kSeq (fun wf H => wC tb nv c11_31 wf H (kFn [.tmp 4] Q)) (kFn [.tmp 4] Q)
def q11_4 (tb : Nat → Option DFn) (nv : CallF) (Q : Value → Heap → Prop) : Kont := kBlk 3 (q11_3 tb nv Q)
def w11_22 (tb : Nat → Option DFn) (nv : CallF) (t0 t1 t5 t7 t31 : Value) (H : Heap) (K : Kont) : Prop := wC tb nv c11_22 (mkW [(0, t0), (1, t1), (5, t5), (7, t7), (31, t31)]) H (q11_2 tb nv K)
def w11_24 (tb : Nat → Option DFn) (nv : CallF) (t0 t1 t5 t7 : Value) (H : Heap) (Q : Value → Heap → Prop) : Prop := wC tb nv c11_24 (mkW [(0, t0), (1, t1), (5, t5), (7, t7)]) H (kFn [.tmp 4] Q)
def w11_28 (tb : Nat → Option DFn) (nv : CallF) (t0 t1 t7 : Value) (H : Heap) (Q : Value → Heap → Prop) : Prop := wC tb nv c11_28 (mkW [(0, t0), (1, t1), (7, t7)]) H (kFn [.tmp 4] Q)
def w11_41 (tb : Nat → Option DFn) (nv : CallF) (t0 t10 : Value) (H : Heap) (Q : Value → Heap → Prop) : Prop := wC tb nv c11_41 (mkW [(0, t0), (10, t10)]) H (kFn [.tmp 4] Q)
theorem e11 (tb : Nat → Option DFn) (nv : CallF) (a0 a1 : Value) (H : Heap) (Q : Value → Heap → Prop) : wFn tb nv k11 [a0, a1] H Q = (
    wP (.nilEq false .ptr) [a0] fun x0 =>
    asB x0 fun b1 => onB b1 (atK (Q (.slice none 0 0) H))
    (wP .nilchk [a0] fun x2 =>
    wP (.fadd 0) [x2] fun x3 =>
    wR (.load 1 false) [x3] H fun x4 =>
    wP (.bin .leq) [a1, x4] fun x5 =>
    asB x5 fun b6 => onB b6 (atK (Q (.slice none 0 0) H))
    (wP .min [a1, (.int .i64 1099511627776)] fun x7 =>
    Ev tb nv 25 [a0, x7] H fun x8 H9 =>
    wP (.extract 0) [x8] fun x10 =>
    wP (.extract 1) [x8] fun x11 =>
    wLoop tb nv c11_11 [0, 1, 5, 7, 31] (mkW [(0, a0), (1, x7), (5, x10), (7, (.slice none 0 0)), (31, (.int .i64 0))]) H9 (q11_1 tb nv Q)))) := by kernel_rfl
theorem l11_11 (tb : Nat → Option DFn) (nv : CallF) (t0 t1 t5 t7 t31 : Value) (H : Heap) (K : Kont) : wC tb nv c11_11 (mkW [(0, t0), (1, t1), (5, t5), (7, t7), (31, t31)]) H K = (
    wP (.bin .lss) [t31, (.int .i64 6)] fun x12 =>
    asB x12 fun b13 => onB b13 (wP .nilchk [t0] fun x14 =>
    wP (.fadd 2) [x14] fun x15 =>
    wP (.iaddA 6 65) [x15, t31] fun x16 =>
    wP (.bin .gtr) [t31, t5] fun x17 =>
    asB x17 fun b18 => onB b18 (atK (K (.exit 0) (mkW [(0, t0), (1, t1), (5, t5), (7, t7)]) H))
    (wP (.bin .lss) [t31, t5] fun x19 =>
    asB x19 fun b20 => onB b20 (Ev tb nv 26 [x16, (.int .i64 0), (.int .i64 63)] H fun x21 H22 =>
    wE (.app 1 8) [t7, x21] H22 fun x23 H24 =>
    atK (w11_22 tb nv t0 t1 t5 x23 t31 H24 K))
    (wP .nilchk [t0] fun x25 =>
    wP (.fadd 0) [x25] fun x26 =>
    wR (.load 1 false) [x26] H fun x27 =>
    wP (.bin .mul) [(.int .i64 6), t31] fun x28 =>
    wP (.bin .shr) [x27, x28] fun x29 =>
    wP (.bin .and) [x29, (.int .i64 63)] fun x30 =>
    wP (.bin .mul) [(.int .i64 6), t31] fun x31 =>
    wP (.bin .shr) [t1, x31] fun x32 =>
    wP (.bin .and) [x32, (.int .i64 63)] fun x33 =>
    Ev tb nv 26 [x16, x30, x33] H fun x34 H35 =>
    wE (.app 1 8) [t7, x34] H35 fun x36 H37 =>
    atK (w11_22 tb nv t0 t1 t5 x36 t31 H37 K))))
    (atK (K (.exit 0) (mkW [(0, t0), (1, t1), (5, t5), (7, t7)]) H))) := by kernel_rfl
theorem x11_11_0 (tb : Nat → Option DFn) (nv : CallF) (t0 t1 t5 t7 : Value) (H : Heap) (Q : Value → Heap → Prop) : (q11_1 tb nv Q) (.exit 0) (mkW [(0, t0), (1, t1), (5, t5), (7, t7)]) H = (
    atK (w11_24 tb nv t0 t1 t5 t7 H Q)) := by kernel_rfl
theorem e11_22 (tb : Nat → Option DFn) (nv : CallF) (t0 t1 t5 t7 t31 : Value) (H : Heap) (K : Kont) : w11_22 tb nv t0 t1 t5 t7 t31 H K = (
    wP (.bin .add) [t31, (.int .i64 1)] fun x38 =>
    atK (K .normal (mkW [(0, t0), (1, t1), (5, t5), (7, t7), (31, x38)]) H)) := by kernel_rfl
theorem e11_24 (tb : Nat → Option DFn) (nv : CallF) (t0 t1 t5 t7 : Value) (H : Heap) (Q : Value → Heap → Prop) : w11_24 tb nv t0 t1 t5 t7 H Q = (
    wP (.bin .eql) [t5, (.int .i64 6)] fun x39 =>
    asB x39 fun b40 => onB b40 (wP .nilchk [t0] fun x41 =>
    wP (.fadd 392) [x41] fun x42 =>
    wR (.load 1 false) [x42] H fun x43 =>
    wE (.app 1 8) [t7, x43] H fun x44 H45 =>
    wP .nilchk [t0] fun x46 =>
    wP (.fadd 392) [x46] fun x47 =>
    wE (.store 1) [x47, (.slice none 0 0)] H45 fun x48 H49 =>
    atK (w11_28 tb nv t0 t1 x44 H49 Q))
    (atK (w11_28 tb nv t0 t1 t7 H Q))) := by kernel_rfl
theorem e11_28 (tb : Nat → Option DFn) (nv : CallF) (t0 t1 t7 : Value) (H : Heap) (Q : Value → Heap → Prop) : w11_28 tb nv t0 t1 t7 H Q = (
    wP .nilchk [t0] fun x50 =>
    wP (.fadd 0) [x50] fun x51 =>
    wE (.store 1) [x51, t1] H fun x52 H53 =>
    wP .nilchk [t0] fun x54 =>
    wP (.fadd 393) [x54] fun x55 =>
    wR (.load 1 false) [x55] H53 fun x56 =>
    wP .lenS [x56] fun x57 =>
    wP .lenS [t7] fun x58 =>
    wLoop tb nv c11_33 [0, 10, 89, 90, 91] (mkW [(0, t0), (10, x57), (89, t7), (90, x58), (91, (.int .i64 0))]) H53 (q11_4 tb nv Q)) := by kernel_rfl
theorem l11_33 (tb : Nat → Option DFn) (nv : CallF) (t0 t10 t89 t90 t91 : Value) (H : Heap) (K : Kont) : wC tb nv c11_33 (mkW [(0, t0), (10, t10), (89, t89), (90, t90), (91, t91)]) H K = (
    wP (.bin .lss) [t91, t90] fun x59 =>
    asB x59 fun b60 => onB b60 (wP (.iaddS 1) [t89, t91] fun x61 =>
    wR (.load 1 false) [x61] H fun x62 =>
    Ev tb nv 24 [t0, x62] H fun x63 H64 =>
    wP (.bin .add) [t91, (.int .i64 1)] fun x65 =>
    atK (K .normal (mkW [(0, t0), (10, t10), (89, t89), (90, t90), (91, x65)]) H64))
    (atK (K (.exit 3) (mkW [(0, t0), (10, t10)]) H))) := by kernel_rfl
theorem x11_33_0 (tb : Nat → Option DFn) (nv : CallF) (t0 t10 : Value) (H : Heap) (Q : Value → Heap → Prop) : (q11_4 tb nv Q) (.exit 3) (mkW [(0, t0), (10, t10)]) H = (
    atK (w11_41 tb nv t0 t10 H Q)) := by kernel_rfl
theorem e11_41 (tb : Nat → Option DFn) (nv : CallF) (t0 t10 : Value) (H : Heap) (Q : Value → Heap → Prop) : w11_41 tb nv t0 t10 H Q = (
    wP .nilchk [t0] fun x66 =>
    wP (.fadd 393) [x66] fun x67 =>
    wR (.load 1 false) [x67] H fun x68 =>
    wP (.slcS 1 true false false) [x68, t10] fun x69 =>
    Ev tb nv 27 [t0, x69] H fun x70 H71 =>
    atK (Q x70 H71)) := by kernel_rfl

/-- tompion/tompionref06.Same -/
def c12_19 : C := .ret
def c12_18 : C := (.keep [4] c12_19)
def c12_17 : C := (.seq (.region [
      ⟨(some 4), (.pure .mov), [.c (.bool true)], none⟩] false) c12_18)
def c12_5 : C := (.keep [] c12_17)
def c12_16 : C := .skip
def c12_8 : C := (.keep [0, 1, 5] c12_16)
def c12_12 : C := (.region [
      ⟨(some 15), (.pure .mov), [.t 5], none⟩,
      ⟨(some 16), (.pure (.bin .add)), [.t 15, .c (.int .i64 (Int.ofNat 1))], none⟩,
      ⟨(some 5), (.pure .mov), [.t 16], none⟩] false)
def c12_15 : C := .ret
def c12_14 : C := (.keep [4] c12_15)
def c12_13 : C := (.cond (.t 25) (.seq (.region [
      ⟨(some 4), (.pure .mov), [.c (.bool false)], none⟩] false) c12_14)
    .skip)
def c12_9 : C := (.seq (.block 1 (.seq (.region [
      ⟨(some 17), (.pure .mov), [.t 0], none⟩,
      ⟨(some 18), (.pure .mov), [.t 5], none⟩,
      ⟨(some 19), (.pure (.iaddS 2)), [.t 17, .t 18], none⟩,
      ⟨(some 20), (.read (.load 2 true) []), [.t 19], none⟩,
      ⟨(some 21), (.pure .mov), [.t 1], none⟩,
      ⟨(some 22), (.pure .mov), [.t 5], none⟩,
      ⟨(some 23), (.pure (.iaddS 2)), [.t 21, .t 22], none⟩,
      ⟨(some 24), (.read (.load 2 true) []), [.t 23], none⟩,
      ⟨(some 25), (.pure (.aggEq true [.i, .i])), [.t 20, .t 24], none⟩] false) c12_13)) c12_12)
def c12_11 : C := (.exit 0)
def c12_10 : C := (.cond (.t 14) .skip
    (.keep [] c12_11))
def c12_7 : C := (.seq (.seq (.seq (.region [
      ⟨(some 11), (.pure .mov), [.t 5], none⟩,
      ⟨(some 12), (.pure .mov), [.t 0], none⟩,
      ⟨(some 13), (.pure .lenS), [.t 12], none⟩,
      ⟨(some 14), (.pure (.bin .lss)), [.t 11, .t 13], none⟩] false) c12_10) c12_9) c12_8)
def c12_6 : C := (.block 0 (.loop (some [0, 1, 5]) c12_7))
def c12_1 : C := (.seq (.seq (.region [
      ⟨(some 5), (.pure .mov), [.c (.int .i64 (Int.ofNat 0))], none⟩] false) c12_6) c12_5)
def c12_4 : C := .ret
def c12_3 : C := (.keep [4] c12_4)
def c12_2 : C := (.cond (.t 10) (.seq (.region [
      ⟨(some 4), (.pure .mov), [.c (.bool false)], none⟩] false) c12_3)
    .skip)
def c12_0 : C := (.seq (.seq (.region [
      ⟨(some 6), (.pure .mov), [.t 0], none⟩,
      ⟨(some 7), (.pure .lenS), [.t 6], none⟩,
      ⟨(some 8), (.pure .mov), [.t 1], none⟩,
      ⟨(some 9), (.pure .lenS), [.t 8], none⟩,
      ⟨(some 10), (.pure (.bin .neq)), [.t 7, .t 9], none⟩] false) c12_2) c12_1)
def k12 : DFn := ⟨26, (.seq (.region [
      ⟨(some 4), (.pure .mov), [.c (.bool false)], none⟩] false) c12_0), [.tmp 4]⟩
theorem c12 : (match Tryd.prog.funcs[12]? with | some fn => compileFn Tryd.prog 1 [none, none, none, none, some [4], some [], none, some [0, 1, 5], none, none, some [], none, none, none, some [4], none, some [4]] fn | none => none) = some k12 := by kernel_rfl
def q12_0 (tb : Nat → Option DFn) (nv : CallF) (Q : Value → Heap → Prop) : Kont := kSeq (fun wf H => wC tb nv c12_5 wf H (kFn [.tmp 4] Q)) (kFn [.tmp 4] Q)
def q12_1 (tb : Nat → Option DFn) (nv : CallF) (Q : Value → Heap → Prop) : Kont := kBlk 0 (q12_0 tb nv Q)
def w12_17 (tb : Nat → Option DFn) (nv : CallF) (H : Heap) (Q : Value → Heap → Prop) : Prop := wC tb nv c12_17 (mkW []) H (kFn [.tmp 4] Q)
theorem e12 (tb : Nat → Option DFn) (nv : CallF) (a0 a1 : Value) (H : Heap) (Q : Value → Heap → Prop) : wFn tb nv k12 [a0, a1] H Q = (
    wP .lenS [a0] fun x0 =>
    wP .lenS [a1] fun x1 =>
    wP (.bin .neq) [x0, x1] fun x2 =>
    asB x2 fun b3 => onB b3 (atK (Q (.bool false) H))
    (wLoop tb nv c12_7 [0, 1, 5] (mkW [(0, a0), (1, a1), (5, (.int .i64 0))]) H (q12_1 tb nv Q))) := by kernel_rfl
theorem l12_7 (tb : Nat → Option DFn) (nv : CallF) (t0 t1 t5 : Value) (H : Heap) (K : Kont) : wC tb nv c12_7 (mkW [(0, t0), (1, t1), (5, t5)]) H K = (
    wP .lenS [t0] fun x4 =>
    wP (.bin .lss) [t5, x4] fun x5 =>
    asB x5 fun b6 => onB b6 (wP (.iaddS 2) [t0, t5] fun x7 =>
    wR (.load 2 true) [x7] H fun x8 =>
    wP (.iaddS 2) [t1, t5] fun x9 =>
    wR (.load 2 true) [x9] H fun x10 =>
    wP (.aggEq true [.i, .i]) [x8, x10] fun x11 =>
    asB x11 fun b12 => onB b12 (atK (K .ret (mkW [(4, (.bool false))]) H))
    (wP (.bin .add) [t5, (.int .i64 1)] fun x13 =>
    atK (K .normal (mkW [(0, t0), (1, t1), (5, x13)]) H)))
    (atK (K (.exit 0) (mkW []) H))) := by kernel_rfl
theorem x12_7_0 (tb : Nat → Option DFn) (nv : CallF) (t4 : Value) (H : Heap) (Q : Value → Heap → Prop) : (q12_1 tb nv Q) .ret (mkW [(4, t4)]) H = (
    Q t4 H) := by kernel_rfl
theorem x12_7_1 (tb : Nat → Option DFn) (nv : CallF) (H : Heap) (Q : Value → Heap → Prop) : (q12_1 tb nv Q) (.exit 0) (mkW []) H = (
    atK (w12_17 tb nv  H Q)) := by kernel_rfl
theorem e12_17 (tb : Nat → Option DFn) (nv : CallF) (H : Heap) (Q : Value → Heap → Prop) : w12_17 tb nv  H Q = (
    atK (Q (.bool true) H)) := by kernel_rfl

/-- (*tompion/wheel.Wheel).Due -/
def c13_7 : C := .ret
def c13_6 : C := (.keep [4] c13_7)
def c13_5 : C := (.seq (.region [
      ⟨(some 14), (.pure .mov), [.t 5], none⟩,
      ⟨(some 15), (.pure .mov), [.t 1], none⟩,
      ⟨(some 16), (.pure .max), [.t 15, .c (.int .i64 (Int.ofNat 0))], none⟩,
      ⟨(some 17), (.pure .mov), [.t 5], none⟩,
      ⟨(some 18), (.pure .lenS), [.t 17], none⟩,
      ⟨(some 19), (.pure .min), [.t 16, .t 18], none⟩,
      ⟨(some 20), (.pure (.slcS 2 false true false)), [.t 14, .t 19], none⟩,
      ⟨(some 4), (.pure .mov), [.t 20], none⟩] false) c13_6)
def c13_1 : C := (.seq (.region [
      ⟨(some 8), (.pure .mov), [.t 0], none⟩,
      ⟨(some 9), (.pure .mov), [.t 0], none⟩,
      ⟨(some 10), (.pure .nilchk), [.t 9], none⟩,
      ⟨(some 11), (.pure (.fadd 393)), [.t 10], none⟩,
      ⟨(some 12), (.read (.load 1 false) []), [.t 11], none⟩,
      ⟨(some 13), (.call 27), [.t 8, .t 12], none⟩,
      ⟨(some 5), (.pure .mov), [.t 13], none⟩] false) c13_5)
def c13_4 : C := .ret
def c13_3 : C := (.keep [4] c13_4)
def c13_2 : C := (.cond (.t 7) (.seq (.region [
      ⟨(some 4), (.pure .mov), [.c (.slice none 0 0)], none⟩] false) c13_3)
    .skip)
def c13_0 : C := (.seq (.seq (.region [
      ⟨(some 6), (.pure .mov), [.t 0], none⟩,
      ⟨(some 7), (.pure (.nilEq false .ptr)), [.t 6], none⟩] false) c13_2) c13_1)
def k13 : DFn := ⟨21, (.seq (.region [
      ⟨(some 4), (.pure .mov), [.c (.slice none 0 0)], none⟩] false) c13_0), [.tmp 4]⟩
theorem c13 : (match Tryd.prog.funcs[13]? with | some fn => compileFn Tryd.prog 1 [none, none, none, none, some [4], none, none, some [4]] fn | none => none) = some k13 := by kernel_rfl
theorem e13 (tb : Nat → Option DFn) (nv : CallF) (a0 a1 : Value) (H : Heap) (Q : Value → Heap → Prop) : wFn tb nv k13 [a0, a1] H Q = (
    wP (.nilEq false .ptr) [a0] fun x0 =>
    asB x0 fun b1 => onB b1 (atK (Q (.slice none 0 0) H))
    (wP .nilchk [a0] fun x2 =>
    wP (.fadd 393) [x2] fun x3 =>
    wR (.load 1 false) [x3] H fun x4 =>
    Ev tb nv 27 [a0, x4] H fun x5 H6 =>
    wP .max [a1, (.int .i64 0)] fun x7 =>
    wP .lenS [x5] fun x8 =>
    wP .min [x7, x8] fun x9 =>
    wP (.slcS 2 false true false) [x5, x9] fun x10 =>
    atK (Q x10 H6))) := by kernel_rfl

/-- (*tompion/wheel.Wheel).Now -/
def c14_6 : C := .ret
def c14_5 : C := (.keep [2] c14_6)
def c14_1 : C := (.seq (.region [
      ⟨(some 5), (.pure .mov), [.t 0], none⟩,
      ⟨(some 6), (.pure .nilchk), [.t 5], none⟩,
      ⟨(some 7), (.pure (.fadd 0)), [.t 6], none⟩,
      ⟨(some 8), (.read (.load 1 false) []), [.t 7], none⟩,
      ⟨(some 2), (.pure .mov), [.t 8], none⟩] false) c14_5)
def c14_4 : C := .ret
def c14_3 : C := (.keep [2] c14_4)
def c14_2 : C := (.cond (.t 4) (.seq (.region [
      ⟨(some 2), (.pure .mov), [.c (.int .i64 (Int.ofNat 0))], none⟩] false) c14_3)
    .skip)
def c14_0 : C := (.seq (.seq (.region [
      ⟨(some 3), (.pure .mov), [.t 0], none⟩,
      ⟨(some 4), (.pure (.nilEq false .ptr)), [.t 3], none⟩] false) c14_2) c14_1)
def k14 : DFn := ⟨9, (.seq (.region [
      ⟨(some 2), (.pure .mov), [.c (.int .i64 (Int.ofNat 0))], none⟩] false) c14_0), [.tmp 2]⟩
theorem c14 : (match Tryd.prog.funcs[14]? with | some fn => compileFn Tryd.prog 1 [none, none, none, none, some [2], none, some [2]] fn | none => none) = some k14 := by kernel_rfl
theorem e14 (tb : Nat → Option DFn) (nv : CallF) (a0 : Value) (H : Heap) (Q : Value → Heap → Prop) : wFn tb nv k14 [a0] H Q = (
    wP (.nilEq false .ptr) [a0] fun x0 =>
    asB x0 fun b1 => onB b1 (atK (Q (.int .i64 0) H))
    (wP .nilchk [a0] fun x2 =>
    wP (.fadd 0) [x2] fun x3 =>
    wR (.load 1 false) [x3] H fun x4 =>
    atK (Q x4 H))) := by kernel_rfl

/-- (*tompion/wheel.Wheel).Len -/
def c15_6 : C := .ret
def c15_5 : C := (.keep [2] c15_6)
def c15_1 : C := (.seq (.region [
      ⟨(some 5), (.pure .mov), [.t 0], none⟩,
      ⟨(some 6), (.pure .nilchk), [.t 5], none⟩,
      ⟨(some 7), (.pure (.fadd 1)), [.t 6], none⟩,
      ⟨(some 8), (.read (.load 1 false) []), [.t 7], none⟩,
      ⟨(some 9), (.read .mlen []), [.t 8], none⟩,
      ⟨(some 2), (.pure .mov), [.t 9], none⟩] false) c15_5)
def c15_4 : C := .ret
def c15_3 : C := (.keep [2] c15_4)
def c15_2 : C := (.cond (.t 4) (.seq (.region [
      ⟨(some 2), (.pure .mov), [.c (.int .i64 (Int.ofNat 0))], none⟩] false) c15_3)
    .skip)
def c15_0 : C := (.seq (.seq (.region [
      ⟨(some 3), (.pure .mov), [.t 0], none⟩,
      ⟨(some 4), (.pure (.nilEq false .ptr)), [.t 3], none⟩] false) c15_2) c15_1)
def k15 : DFn := ⟨10, (.seq (.region [
      ⟨(some 2), (.pure .mov), [.c (.int .i64 (Int.ofNat 0))], none⟩] false) c15_0), [.tmp 2]⟩
theorem c15 : (match Tryd.prog.funcs[15]? with | some fn => compileFn Tryd.prog 1 [none, none, none, none, some [2], none, some [2]] fn | none => none) = some k15 := by kernel_rfl
theorem e15 (tb : Nat → Option DFn) (nv : CallF) (a0 : Value) (H : Heap) (Q : Value → Heap → Prop) : wFn tb nv k15 [a0] H Q = (
    wP (.nilEq false .ptr) [a0] fun x0 =>
    asB x0 fun b1 => onB b1 (atK (Q (.int .i64 0) H))
    (wP .nilchk [a0] fun x2 =>
    wP (.fadd 1) [x2] fun x3 =>
    wR (.load 1 false) [x3] H fun x4 =>
    wR .mlen [x4] H fun x5 =>
    atK (Q x5 H))) := by kernel_rfl

/-- (*tompion/wheel.Wheel).Remove -/
def c16_21 : C := .ret
def c16_20 : C := (.keep [4] c16_21)
def c16_19 : C := (.seq (.region [
      ⟨(some 4), (.pure .mov), [.c (.bool true)], none⟩] false) c16_20)
def c16_18 : C := (.seq (.region [
      ⟨(some 87), (.pure .mov), [.t 0], none⟩,
      ⟨(some 88), (.pure .nilchk), [.t 87], none⟩,
      ⟨(some 89), (.pure (.fadd 1)), [.t 88], none⟩,
      ⟨(some 90), (.read (.load 1 false) []), [.t 89], none⟩,
      ⟨(some 91), (.pure .mov), [.t 1], none⟩,
      ⟨none, (.eff (.del (.one .i))), [.t 90, .t 91], none⟩] false) c16_19)
def c16_10 : C := (.keep [0, 1] c16_18)
def c16_17 : C := (.cond (.t 55) (.region [
      ⟨(some 56), (.pure .mov), [.t 9], none⟩,
      ⟨(some 57), (.pure .nilchk), [.t 56], none⟩,
      ⟨(some 58), (.pure (.fadd 0)), [.t 57], none⟩,
      ⟨(some 59), (.read (.load 1 false) []), [.t 58], none⟩,
      ⟨(some 60), (.pure .mov), [.t 8], none⟩,
      ⟨(some 61), (.pure (.bin .shl)), [.c (.int .u64 (Int.ofNat 1)), .t 60], none⟩,
      ⟨(some 62), (.pure (.bin .andNot)), [.t 59, .t 61], none⟩,
      ⟨(some 63), (.pure .nilchk), [.t 56], none⟩,
      ⟨(some 64), (.pure (.fadd 0)), [.t 63], none⟩,
      ⟨none, (.eff (.store 1)), [.t 64, .t 62], none⟩] false)
    .skip)
def c16_16 : C := (.seq (.region [
      ⟨(some 48), (.pure .mov), [.t 9], none⟩,
      ⟨(some 49), (.pure .mov), [.t 8], none⟩,
      ⟨(some 50), (.pure .nilchk), [.t 48], none⟩,
      ⟨(some 51), (.pure (.fadd 1)), [.t 50], none⟩,
      ⟨(some 52), (.pure (.iaddA 64 1)), [.t 51, .t 49], none⟩,
      ⟨(some 53), (.read (.load 1 false) []), [.t 52], none⟩,
      ⟨(some 54), (.pure .lenS), [.t 53], none⟩,
      ⟨(some 55), (.pure (.bin .eql)), [.t 54, .c (.int .i64 (Int.ofNat 0))], none⟩] false) c16_17)
def c16_15 : C := (.seq (.region [
      ⟨(some 35), (.pure .mov), [.t 9], none⟩,
      ⟨(some 36), (.pure .mov), [.t 8], none⟩,
      ⟨(some 37), (.pure .mov), [.t 9], none⟩,
      ⟨(some 38), (.pure .mov), [.t 8], none⟩,
      ⟨(some 39), (.pure .nilchk), [.t 37], none⟩,
      ⟨(some 40), (.pure (.fadd 1)), [.t 39], none⟩,
      ⟨(some 41), (.pure (.iaddA 64 1)), [.t 40, .t 38], none⟩,
      ⟨(some 42), (.read (.load 1 false) []), [.t 41], none⟩,
      ⟨(some 43), (.pure .mov), [.t 1], none⟩,
      ⟨(some 44), (.call 28), [.t 42, .t 43], none⟩,
      ⟨(some 45), (.pure .nilchk), [.t 35], none⟩,
      ⟨(some 46), (.pure (.fadd 1)), [.t 45], none⟩,
      ⟨(some 47), (.pure (.iaddA 64 1)), [.t 46, .t 36], none⟩,
      ⟨none, (.eff (.store 1)), [.t 47, .t 44], none⟩] false) c16_16)
def c16_14 : C := (.cond (.t 76) (.region [
      ⟨(some 78), (.pure .mov), [.t 0], none⟩,
      ⟨(some 79), (.pure .mov), [.t 0], none⟩,
      ⟨(some 80), (.pure .nilchk), [.t 79], none⟩,
      ⟨(some 81), (.pure (.fadd 392)), [.t 80], none⟩,
      ⟨(some 82), (.read (.load 1 false) []), [.t 81], none⟩,
      ⟨(some 83), (.pure .mov), [.t 1], none⟩,
      ⟨(some 84), (.call 28), [.t 82, .t 83], none⟩,
      ⟨(some 85), (.pure .nilchk), [.t 78], none⟩,
      ⟨(some 86), (.pure (.fadd 392)), [.t 85], none⟩,
      ⟨none, (.eff (.store 1)), [.t 86, .t 84], none⟩] false)
    (.seq (.region [
      ⟨(some 30), (.pure .mov), [.t 0], none⟩,
      ⟨(some 31), (.pure .mov), [.t 7], none⟩,
      ⟨(some 32), (.pure .nilchk), [.t 30], none⟩,
      ⟨(some 33), (.pure (.fadd 2)), [.t 32], none⟩,
      ⟨(some 34), (.pure (.iaddA 6 65)), [.t 33, .t 31], none⟩,
      ⟨(some 9), (.pure .mov), [.t 34], none⟩] false) c16_15))
def c16_13 : C := (.cond (.t 65) (.region [
      ⟨(some 67), (.pure .mov), [.t 0], none⟩,
      ⟨(some 68), (.pure .mov), [.t 0], none⟩,
      ⟨(some 69), (.pure .nilchk), [.t 68], none⟩,
      ⟨(some 70), (.pure (.fadd 393)), [.t 69], none⟩,
      ⟨(some 71), (.read (.load 1 false) []), [.t 70], none⟩,
      ⟨(some 72), (.pure .mov), [.t 1], none⟩,
      ⟨(some 73), (.call 28), [.t 71, .t 72], none⟩,
      ⟨(some 74), (.pure .nilchk), [.t 67], none⟩,
      ⟨(some 75), (.pure (.fadd 393)), [.t 74], none⟩,
      ⟨none, (.eff (.store 1)), [.t 75, .t 73], none⟩] false)
    (.seq (.region [
      ⟨(some 77), (.pure (.bin .eql)), [.t 29, .c (.int .i64 (Int.ofNat 6))], none⟩,
      ⟨(some 76), (.pure .mov), [.t 77], none⟩] false) c16_14))
def c16_12 : C := (.block 0 (.seq (.region [
      ⟨(some 66), (.pure (.bin .eql)), [.t 29, .c (.int .i64 (Int.negSucc 0))], none⟩,
      ⟨(some 65), (.pure .mov), [.t 66], none⟩] false) c16_13))
def c16_11 : C := (.seq (.region [
      ⟨(some 29), (.pure .mov), [.t 7], none⟩] false) c16_12)
def c16_6 : C := (.seq (.seq (.region [
      ⟨(some 24), (.pure .mov), [.t 0], none⟩,
      ⟨(some 25), (.pure .mov), [.t 5], none⟩,
      ⟨(some 26), (.call 25), [.t 24, .t 25], none⟩,
      ⟨(some 23), (.pure .mov), [.t 26], none⟩,
      ⟨(some 27), (.pure (.extract 0)), [.t 23], none⟩,
      ⟨(some 28), (.pure (.extract 1)), [.t 23], none⟩,
      ⟨(some 7), (.pure .mov), [.t 27], none⟩,
      ⟨(some 8), (.pure .mov), [.t 28], none⟩] false) c16_11) c16_10)
def c16_9 : C := .ret
def c16_8 : C := (.keep [4] c16_9)
def c16_7 : C := (.cond (.t 22) (.seq (.region [
      ⟨(some 4), (.pure .mov), [.c (.bool false)], none⟩] false) c16_8)
    .skip)
def c16_5 : C := (.seq (.seq (.region [
      ⟨(some 21), (.pure .mov), [.t 6], none⟩,
      ⟨(some 22), (.pure (.un .not)), [.t 21], none⟩] false) c16_7) c16_6)
def c16_1 : C := (.seq (.region [
      ⟨(some 13), (.pure .mov), [.t 0], none⟩,
      ⟨(some 14), (.pure .nilchk), [.t 13], none⟩,
      ⟨(some 15), (.pure (.fadd 1)), [.t 14], none⟩,
      ⟨(some 16), (.read (.load 1 false) []), [.t 15], none⟩,
      ⟨(some 17), (.pure .mov), [.t 1], none⟩,
      ⟨(some 18), (.read (.lookup (.one .i) (.int .i64 (Int.ofNat 0)) true) []), [.t 16, .t 17], none⟩,
      ⟨(some 12), (.pure .mov), [.t 18], none⟩,
      ⟨(some 19), (.pure (.extract 0)), [.t 12], none⟩,
      ⟨(some 20), (.pure (.extract 1)), [.t 12], none⟩,
      ⟨(some 5), (.pure .mov), [.t 19], none⟩,
      ⟨(some 6), (.pure .mov), [.t 20], none⟩] false) c16_5)
def c16_4 : C := .ret
def c16_3 : C := (.keep [4] c16_4)
def c16_2 : C := (.cond (.t 11) (.seq (.region [
      ⟨(some 4), (.pure .mov), [.c (.bool false)], none⟩] false) c16_3)
    .skip)
def c16_0 : C := (.seq (.seq (.region [
      ⟨(some 10), (.pure .mov), [.t 0], none⟩,
      ⟨(some 11), (.pure (.nilEq false .ptr)), [.t 10], none⟩] false) c16_2) c16_1)
def k16 : DFn := ⟨92, (.seq (.region [
      ⟨(some 4), (.pure .mov), [.c (.bool false)], none⟩] false) c16_0), [.tmp 4]⟩
theorem c16 : (match Tryd.prog.funcs[16]? with | some fn => compileFn Tryd.prog 1 [none, none, none, none, some [4], none, none, none, none, some [4], some [0, 1], none, none, none, none, none, none, none, none, none, some [4]] fn | none => none) = some k16 := by kernel_rfl
def w16_18 (tb : Nat → Option DFn) (nv : CallF) (t0 t1 : Value) (H : Heap) (Q : Value → Heap → Prop) : Prop := wC tb nv c16_18 (mkW [(0, t0), (1, t1)]) H (kFn [.tmp 4] Q)
theorem e16 (tb : Nat → Option DFn) (nv : CallF) (a0 a1 : Value) (H : Heap) (Q : Value → Heap → Prop) : wFn tb nv k16 [a0, a1] H Q = (
    wP (.nilEq false .ptr) [a0] fun x0 =>
    asB x0 fun b1 => onB b1 (atK (Q (.bool false) H))
    (wP .nilchk [a0] fun x2 =>
    wP (.fadd 1) [x2] fun x3 =>
    wR (.load 1 false) [x3] H fun x4 =>
    wR (.lookup (.one .i) (.int .i64 0) true) [x4, a1] H fun x5 =>
    wP (.extract 0) [x5] fun x6 =>
    wP (.extract 1) [x5] fun x7 =>
    wP (.un .not) [x7] fun x8 =>
    asB x8 fun b9 => onB b9 (atK (Q (.bool false) H))
    (Ev tb nv 25 [a0, x6] H fun x10 H11 =>
    wP (.extract 0) [x10] fun x12 =>
    wP (.extract 1) [x10] fun x13 =>
    wP (.bin .eql) [x12, (.int .i64 (Int.negSucc 0))] fun x14 =>
    asB x14 fun b15 => onB b15 (wP .nilchk [a0] fun x16 =>
    wP (.fadd 393) [x16] fun x17 =>
    wR (.load 1 false) [x17] H11 fun x18 =>
    Ev tb nv 28 [x18, a1] H11 fun x19 H20 =>
    wP .nilchk [a0] fun x21 =>
    wP (.fadd 393) [x21] fun x22 =>
    wE (.store 1) [x22, x19] H20 fun x23 H24 =>
    atK (w16_18 tb nv a0 a1 H24 Q))
    (wP (.bin .eql) [x12, (.int .i64 6)] fun x25 =>
    asB x25 fun b26 => onB b26 (wP .nilchk [a0] fun x27 =>
    wP (.fadd 392) [x27] fun x28 =>
    wR (.load 1 false) [x28] H11 fun x29 =>
    Ev tb nv 28 [x29, a1] H11 fun x30 H31 =>
    wP .nilchk [a0] fun x32 =>
    wP (.fadd 392) [x32] fun x33 =>
    wE (.store 1) [x33, x30] H31 fun x34 H35 =>
    atK (w16_18 tb nv a0 a1 H35 Q))
    (wP .nilchk [a0] fun x36 =>
    wP (.fadd 2) [x36] fun x37 =>
    wP (.iaddA 6 65) [x37, x12] fun x38 =>
    wP .nilchk [x38] fun x39 =>
    wP (.fadd 1) [x39] fun x40 =>
    wP (.iaddA 64 1) [x40, x13] fun x41 =>
    wR (.load 1 false) [x41] H11 fun x42 =>
    Ev tb nv 28 [x42, a1] H11 fun x43 H44 =>
    wP .nilchk [x38] fun x45 =>
    wP (.fadd 1) [x45] fun x46 =>
    wP (.iaddA 64 1) [x46, x13] fun x47 =>
    wE (.store 1) [x47, x43] H44 fun x48 H49 =>
    wP .nilchk [x38] fun x50 =>
    wP (.fadd 1) [x50] fun x51 =>
    wP (.iaddA 64 1) [x51, x13] fun x52 =>
    wR (.load 1 false) [x52] H49 fun x53 =>
    wP .lenS [x53] fun x54 =>
    wP (.bin .eql) [x54, (.int .i64 0)] fun x55 =>
    asB x55 fun b56 => onB b56 (wP .nilchk [x38] fun x57 =>
    wP (.fadd 0) [x57] fun x58 =>
    wR (.load 1 false) [x58] H49 fun x59 =>
    wP (.bin .shl) [(.int .u64 1), x13] fun x60 =>
    wP (.bin .andNot) [x59, x60] fun x61 =>
    wP .nilchk [x38] fun x62 =>
    wP (.fadd 0) [x62] fun x63 =>
    wE (.store 1) [x63, x61] H49 fun x64 H65 =>
    atK (w16_18 tb nv a0 a1 H65 Q))
    (atK (w16_18 tb nv a0 a1 H49 Q))))))) := by kernel_rfl
theorem e16_18 (tb : Nat → Option DFn) (nv : CallF) (t0 t1 : Value) (H : Heap) (Q : Value → Heap → Prop) : w16_18 tb nv t0 t1 H Q = (
    wP .nilchk [t0] fun x66 =>
    wP (.fadd 1) [x66] fun x67 =>
    wR (.load 1 false) [x67] H fun x68 =>
    wE (.del (.one .i)) [x68, t1] H fun x69 H70 =>
    atK (Q (.bool true) H70)) := by kernel_rfl

/-- (*tompion/wheel.Wheel).Next -/
def c17_25 : C := .ret
def c17_24 : C := (.keep [2, 3] c17_25)
def c17_23 : C := (.seq (.region [
      ⟨(some 60), (.pure .mov), [.t 0], none⟩,
      ⟨(some 61), (.pure .mov), [.t 0], none⟩,
      ⟨(some 62), (.pure .nilchk), [.t 61], none⟩,
      ⟨(some 63), (.pure (.fadd 392)), [.t 62], none⟩,
      ⟨(some 64), (.read (.load 1 false) []), [.t 63], none⟩,
      ⟨(some 65), (.call 27), [.t 60, .t 64], none⟩,
      ⟨(some 66), (.pure (.iaddS 2)), [.t 65, .c (.int .i64 (Int.ofNat 0))], none⟩,
      ⟨(some 67), (.pure (.iaddA 2 1)), [.t 66, .c (.int .i64 (Int.ofNat 0))], none⟩,
      ⟨(some 68), (.read (.load 1 false) []), [.t 67], none⟩,
      ⟨(some 2), (.pure .mov), [.t 68], none⟩,
      ⟨(some 3), (.pure .mov), [.c (.bool true)], none⟩] false) c17_24)
def c17_9 : C := (.keep [0] c17_23)
def c17_22 : C := .skip
def c17_12 : C := (.keep [0, 31] c17_22)
def c17_16 : C := (.region [
      ⟨(some 59), (.pure (.bin .add)), [.t 31, .c (.int .i64 (Int.ofNat 1))], none⟩,
      ⟨(some 31), (.pure .mov), [.t 59], none⟩] false)
def c17_21 : C := .ret
def c17_20 : C := (.keep [2, 3] c17_21)
def c17_19 : C := (.cond (.t 43) (.seq (.region [
      ⟨(some 44), (.pure .mov), [.t 0], none⟩,
      ⟨(some 45), (.pure .mov), [.t 5], none⟩,
      ⟨(some 46), (.pure .mov), [.t 5], none⟩,
      ⟨(some 47), (.pure .nilchk), [.t 46], none⟩,
      ⟨(some 48), (.pure (.fadd 0)), [.t 47], none⟩,
      ⟨(some 49), (.read (.load 1 false) []), [.t 48], none⟩,
      ⟨(some 50), (.call 29), [.t 49], none⟩,
      ⟨(some 51), (.pure .nilchk), [.t 45], none⟩,
      ⟨(some 52), (.pure (.fadd 1)), [.t 51], none⟩,
      ⟨(some 53), (.pure (.iaddA 64 1)), [.t 52, .t 50], none⟩,
      ⟨(some 54), (.read (.load 1 false) []), [.t 53], none⟩,
      ⟨(some 55), (.call 27), [.t 44, .t 54], none⟩,
      ⟨(some 56), (.pure (.iaddS 2)), [.t 55, .c (.int .i64 (Int.ofNat 0))], none⟩,
      ⟨(some 57), (.pure (.iaddA 2 1)), [.t 56, .c (.int .i64 (Int.ofNat 0))], none⟩,
      ⟨(some 58), (.read (.load 1 false) []), [.t 57], none⟩,
      ⟨(some 2), (.pure .mov), [.t 58], none⟩,
      ⟨(some 3), (.pure .mov), [.c (.bool true)], none⟩] false) c17_20)
    .skip)
def c17_18 : C := (.seq (.region [
      ⟨(some 39), (.pure .mov), [.t 5], none⟩,
      ⟨(some 40), (.pure .nilchk), [.t 39], none⟩,
      ⟨(some 41), (.pure (.fadd 0)), [.t 40], none⟩,
      ⟨(some 42), (.read (.load 1 false) []), [.t 41], none⟩,
      ⟨(some 43), (.pure (.bin .neq)), [.t 42, .c (.int .u64 (Int.ofNat 0))], none⟩] false) c17_19)
def c17_17 : C := (.seq (.region [
      ⟨(some 34), (.pure .mov), [.t 0], none⟩,
      ⟨(some 35), (.pure .mov), [.t 4], none⟩,
      ⟨(some 36), (.pure .nilchk), [.t 34], none⟩,
      ⟨(some 37), (.pure (.fadd 2)), [.t 36], none⟩,
      ⟨(some 38), (.pure (.iaddA 6 65)), [.t 37, .t 35], none⟩,
      ⟨(some 5), (.pure .mov), [.t 38], none⟩] false) c17_18)
def c17_14 : C := (.seq (.block 1 (.seq (.region [
      ⟨(some 33), (.pure .mov), [.t 31], none⟩,
      ⟨(some 4), (.pure .mov), [.t 33], none⟩] false) c17_17)) c17_16)
def c17_15 : C := (.exit 0)
def c17_13 : C := (.seq (.cond (.t 32) .skip
    (.keep [0] c17_15)) c17_14)
def c17_11 : C := (.seq (.seq (.region [
      ⟨(some 32), (.pure (.bin .lss)), [.t 31, .c (.int .i64 (Int.ofNat 6))], none⟩] false) c17_13) c17_12)
def c17_10 : C := (.block 0 (.loop (some [0, 31]) c17_11))
def c17_5 : C := (.seq (.seq (.region [
      ⟨(some 31), (.pure .mov), [.c (.int .i64 (Int.ofNat 0))], none⟩] false) c17_10) c17_9)
def c17_8 : C := .ret
def c17_7 : C := (.keep [2, 3] c17_8)
def c17_6 : C := (.cond (.t 21) (.seq (.region [
      ⟨(some 22), (.pure .mov), [.t 0], none⟩,
      ⟨(some 23), (.pure .mov), [.t 0], none⟩,
      ⟨(some 24), (.pure .nilchk), [.t 23], none⟩,
      ⟨(some 25), (.pure (.fadd 393)), [.t 24], none⟩,
      ⟨(some 26), (.read (.load 1 false) []), [.t 25], none⟩,
      ⟨(some 27), (.call 27), [.t 22, .t 26], none⟩,
      ⟨(some 28), (.pure (.iaddS 2)), [.t 27, .c (.int .i64 (Int.ofNat 0))], none⟩,
      ⟨(some 29), (.pure (.iaddA 2 1)), [.t 28, .c (.int .i64 (Int.ofNat 0))], none⟩,
      ⟨(some 30), (.read (.load 1 false) []), [.t 29], none⟩,
      ⟨(some 2), (.pure .mov), [.t 30], none⟩,
      ⟨(some 3), (.pure .mov), [.c (.bool true)], none⟩] false) c17_7)
    .skip)
def c17_1 : C := (.seq (.seq (.region [
      ⟨(some 16), (.pure .mov), [.t 0], none⟩,
      ⟨(some 17), (.pure .nilchk), [.t 16], none⟩,
      ⟨(some 18), (.pure (.fadd 393)), [.t 17], none⟩,
      ⟨(some 19), (.read (.load 1 false) []), [.t 18], none⟩,
      ⟨(some 20), (.pure .lenS), [.t 19], none⟩,
      ⟨(some 21), (.pure (.bin .gtr)), [.t 20, .c (.int .i64 (Int.ofNat 0))], none⟩] false) c17_6) c17_5)
def c17_4 : C := .ret
def c17_3 : C := (.keep [2, 3] c17_4)
def c17_2 : C := (.cond (.t 15) (.seq (.region [
      ⟨(some 2), (.pure .mov), [.c (.int .i64 (Int.ofNat 0))], none⟩,
      ⟨(some 3), (.pure .mov), [.c (.bool false)], none⟩] false) c17_3)
    .skip)
def c17_0 : C := (.seq (.seq (.region [
      ⟨(some 6), (.pure .mov), [.t 0], none⟩,
      ⟨(some 7), (.pure (.nilEq false .ptr)), [.t 6], none⟩,
      ⟨(some 8), (.pure .mov), [.t 7], none⟩,
      ⟨(some 9), (.pure .mov), [.t 0], (some (8, false))⟩,
      ⟨(some 10), (.pure .nilchk), [.t 9], (some (8, false))⟩,
      ⟨(some 11), (.pure (.fadd 1)), [.t 10], (some (8, false))⟩,
      ⟨(some 12), (.read (.load 1 false) []), [.t 11], (some (8, false))⟩,
      ⟨(some 13), (.read .mlen []), [.t 12], (some (8, false))⟩,
      ⟨(some 14), (.pure (.bin .eql)), [.t 13, .c (.int .i64 (Int.ofNat 0))], (some (8, false))⟩,
      ⟨(some 15), (.pure .pick), [.t 8, .c (.bool true), .t 14], none⟩] false) c17_2) c17_1)
def k17 : DFn := ⟨69, (.seq (.region [
      ⟨(some 2), (.pure .mov), [.c (.int .i64 (Int.ofNat 0))], none⟩,
      ⟨(some 3), (.pure .mov), [.c (.bool false)], none⟩] false) c17_0), [.tmp 2, .tmp 3]⟩
theorem c17 : (match Tryd.prog.funcs[17]? with | some fn => compileFn Tryd.prog 1 [none, none, none, none, some [2, 3], none, none, none, some [2, 3], some [0], none, some [0, 31], none, none, some [0], none, none, none, none, none, some [2, 3], none, some [2, 3]] fn | none => none) = some k17 := by kernel_rfl
def q17_0 (tb : Nat → Option DFn) (nv : CallF) (Q : Value → Heap → Prop) : Kont := kSeq (fun wf H => wC tb nv c17_9 wf H (kFn [.tmp 2, .tmp 3] Q)) (kFn [.tmp 2, .tmp 3] Q)
def q17_1 (tb : Nat → Option DFn) (nv : CallF) (Q : Value → Heap → Prop) : Kont := kBlk 0 (q17_0 tb nv Q)
def w17_23 (tb : Nat → Option DFn) (nv : CallF) (t0 : Value) (H : Heap) (Q : Value → Heap → Prop) : Prop := wC tb nv c17_23 (mkW [(0, t0)]) H (kFn [.tmp 2, .tmp 3] Q)
theorem e17 (tb : Nat → Option DFn) (nv : CallF) (a0 : Value) (H : Heap) (Q : Value → Heap → Prop) : wFn tb nv k17 [a0] H Q = (
    wP (.nilEq false .ptr) [a0] fun x0 =>
    asB x0 fun b1 => onB b1 (atK (Q (.tuple ⟨[(.int .i64 0), (.bool false)]⟩) H))
    (wP .nilchk [a0] fun x2 =>
    wP (.fadd 1) [x2] fun x3 =>
    wR (.load 1 false) [x3] H fun x4 =>
    wR .mlen [x4] H fun x5 =>
    wP (.bin .eql) [x5, (.int .i64 0)] fun x6 =>
    asB x6 fun b7 => onB b7 (atK (Q (.tuple ⟨[(.int .i64 0), (.bool false)]⟩) H))
    (wP .nilchk [a0] fun x8 =>
    wP (.fadd 393) [x8] fun x9 =>
    wR (.load 1 false) [x9] H fun x10 =>
    wP .lenS [x10] fun x11 =>
    wP (.bin .gtr) [x11, (.int .i64 0)] fun x12 =>
    asB x12 fun b13 => onB b13 (wP .nilchk [a0] fun x14 =>
    wP (.fadd 393) [x14] fun x15 =>
    wR (.load 1 false) [x15] H fun x16 =>
    Ev tb nv 27 [a0, x16] H fun x17 H18 =>
    wP (.iaddS 2) [x17, (.int .i64 0)] fun x19 =>
    wP (.iaddA 2 1) [x19, (.int .i64 0)] fun x20 =>
    wR (.load 1 false) [x20] H18 fun x21 =>
    atK (Q (.tuple ⟨[x21, (.bool true)]⟩) H18))
    (wLoop tb nv c17_11 [0, 31] (mkW [(0, a0), (31, (.int .i64 0))]) H (q17_1 tb nv Q))))) := by kernel_rfl
theorem l17_11 (tb : Nat → Option DFn) (nv : CallF) (t0 t31 : Value) (H : Heap) (K : Kont) : wC tb nv c17_11 (mkW [(0, t0), (31, t31)]) H K = (
    wP (.bin .lss) [t31, (.int .i64 6)] fun x22 =>
    asB x22 fun b23 => onB b23 (wP .nilchk [t0] fun x24 =>
    wP (.fadd 2) [x24] fun x25 =>
    wP (.iaddA 6 65) [x25, t31] fun x26 =>
    wP .nilchk [x26] fun x27 =>
    wP (.fadd 0) [x27] fun x28 =>
    wR (.load 1 false) [x28] H fun x29 =>
    wP (.bin .neq) [x29, (.int .u64 0)] fun x30 =>
    asB x30 fun b31 => onB b31 (wP .nilchk [x26] fun x32 =>
    wP (.fadd 0) [x32] fun x33 =>
    wR (.load 1 false) [x33] H fun x34 =>
    Ev tb nv 29 [x34] H fun x35 H36 =>
    wP .nilchk [x26] fun x37 =>
    wP (.fadd 1) [x37] fun x38 =>
    wP (.iaddA 64 1) [x38, x35] fun x39 =>
    wR (.load 1 false) [x39] H36 fun x40 =>
    Ev tb nv 27 [t0, x40] H36 fun x41 H42 =>
    wP (.iaddS 2) [x41, (.int .i64 0)] fun x43 =>
    wP (.iaddA 2 1) [x43, (.int .i64 0)] fun x44 =>
    wR (.load 1 false) [x44] H42 fun x45 =>
    atK (K .ret (mkW [(2, x45), (3, (.bool true))]) H42))
    (wP (.bin .add) [t31, (.int .i64 1)] fun x46 =>
    atK (K .normal (mkW [(0, t0), (31, x46)]) H)))
    (atK (K (.exit 0) (mkW [(0, t0)]) H))) := by kernel_rfl
theorem x17_11_0 (tb : Nat → Option DFn) (nv : CallF) (t2 t3 : Value) (H : Heap) (Q : Value → Heap → Prop) : (q17_1 tb nv Q) .ret (mkW [(2, t2), (3, t3)]) H = (
    Q (.tuple ⟨[t2, t3]⟩) H) := by kernel_rfl
theorem x17_11_1 (tb : Nat → Option DFn) (nv : CallF) (t0 : Value) (H : Heap) (Q : Value → Heap → Prop) : (q17_1 tb nv Q) (.exit 0) (mkW [(0, t0)]) H = (
    atK (w17_23 tb nv t0 H Q)) := by kernel_rfl
theorem e17_23 (tb : Nat → Option DFn) (nv : CallF) (t0 : Value) (H : Heap) (Q : Value → Heap → Prop) : w17_23 tb nv t0 H Q = (
    wP .nilchk [t0] fun x47 =>
    wP (.fadd 392) [x47] fun x48 =>
    wR (.load 1 false) [x48] H fun x49 =>
    Ev tb nv 27 [t0, x49] H fun x50 H51 =>
    wP (.iaddS 2) [x50, (.int .i64 0)] fun x52 =>
    wP (.iaddA 2 1) [x52, (.int .i64 0)] fun x53 =>
    wR (.load 1 false) [x53] H51 fun x54 =>
    atK (Q (.tuple ⟨[x54, (.bool true)]⟩) H51)) := by kernel_rfl

end Go.Proofs.YtedeopeegicnbaaDoor.D
