/- The compiled functions of the seat, as the machine "D" runs them, and what each comes to (written by a program). No statement of the seat is proved in this text. -/
import Derived.Test.YtolmfeknhoiepaaGreatDoorDz
import Derived.Test.YtolmfeknhoiepaaGreatDoorProg
set_option maxRecDepth 100000
set_option linter.unusedVariables false
namespace Go.Proofs.YtolmfeknhoiepaaGreatDoor.D
open Go
/-- tompion/tompionlaw09.OplogNil -/
def c10_8 : C := .ret
def c10_7 : C := (.keep [4] c10_8)
def c10_6 : C := (.seq (.region [
      ⟨(some 51), (.call 26), [], none⟩,
      ⟨(some 52), (.pure .mov), [.t 51], none⟩,
      ⟨(some 53), (.pure .mov), [.t 8], (some (52, true))⟩,
      ⟨(some 54), (.pure (.bin .eql)), [.t 53, .c (.int .i64 (Int.ofNat 12))], (some (52, true))⟩,
      ⟨(some 55), (.pure .pick), [.t 52, .t 54, .c (.bool false)], none⟩,
      ⟨(some 56), (.pure .mov), [.t 55], none⟩,
      ⟨(some 57), (.pure .mov), [.t 10], (some (56, true))⟩,
      ⟨(some 58), (.pure (.bin .eql)), [.t 57, .c (.int .i64 (Int.ofNat 12))], (some (56, true))⟩,
      ⟨(some 59), (.pure .pick), [.t 56, .t 58, .c (.bool false)], none⟩,
      ⟨(some 60), (.pure .mov), [.t 59], none⟩,
      ⟨(some 61), (.pure .mov), [.t 12], (some (60, true))⟩,
      ⟨(some 62), (.pure (.bin .eql)), [.t 61, .c (.int .i64 (Int.ofNat 12))], (some (60, true))⟩,
      ⟨(some 63), (.pure .pick), [.t 60, .t 62, .c (.bool false)], none⟩,
      ⟨(some 64), (.pure .mov), [.t 63], none⟩,
      ⟨(some 65), (.pure .mov), [.t 14], (some (64, true))⟩,
      ⟨(some 66), (.pure (.un .not)), [.t 65], (some (64, true))⟩,
      ⟨(some 67), (.pure .pick), [.t 64, .t 66, .c (.bool false)], none⟩,
      ⟨(some 68), (.pure .mov), [.t 67], none⟩,
      ⟨(some 69), (.pure .mov), [.t 5], (some (68, true))⟩,
      ⟨(some 70), (.call 31), [.t 69], (some (68, true))⟩,
      ⟨(some 71), (.pure (.bin .eql)), [.t 70, .c (.int .i64 (Int.ofNat 0))], (some (68, true))⟩,
      ⟨(some 72), (.pure .pick), [.t 68, .t 71, .c (.bool false)], none⟩,
      ⟨(some 73), (.pure .mov), [.t 72], none⟩,
      ⟨(some 74), (.pure .mov), [.t 5], (some (73, true))⟩,
      ⟨(some 75), (.pure .mov), [.t 1], (some (73, true))⟩,
      ⟨(some 76), (.pure .mov), [.t 1], (some (73, true))⟩,
      ⟨(some 77), (.call 30), [.t 74, .t 75, .t 76], (some (73, true))⟩,
      ⟨(some 78), (.pure (.field 0 1 false)), [.t 77], (some (73, true))⟩,
      ⟨(some 79), (.pure (.bin .eql)), [.t 78, .c (.int .i64 (Int.ofNat 12))], (some (73, true))⟩,
      ⟨(some 80), (.pure .pick), [.t 73, .t 79, .c (.bool false)], none⟩,
      ⟨(some 81), (.pure .mov), [.t 80], none⟩,
      ⟨(some 82), (.pure .mov), [.t 5], (some (81, true))⟩,
      ⟨(some 83), (.pure .mov), [.t 1], (some (81, true))⟩,
      ⟨(some 84), (.call 32), [.t 82, .t 83], (some (81, true))⟩,
      ⟨(some 85), (.pure (.bin .eql)), [.t 84, .c (.int .i64 (Int.ofNat 0))], (some (81, true))⟩,
      ⟨(some 86), (.pure .pick), [.t 81, .t 85, .c (.bool false)], none⟩,
      ⟨(some 87), (.pure .mov), [.t 86], none⟩,
      ⟨(some 88), (.pure .mov), [.t 15], (some (87, true))⟩,
      ⟨(some 89), (.pure .lenS), [.t 88], (some (87, true))⟩,
      ⟨(some 90), (.pure (.bin .eql)), [.t 89, .c (.int .i64 (Int.ofNat 0))], (some (87, true))⟩,
      ⟨(some 91), (.pure .pick), [.t 87, .t 90, .c (.bool false)], none⟩,
      ⟨(some 92), (.pure .mov), [.t 91], none⟩,
      ⟨(some 93), (.pure .mov), [.t 16], (some (92, true))⟩,
      ⟨(some 94), (.pure (.bin .eql)), [.t 93, .c (.int .i64 (Int.ofNat 0))], (some (92, true))⟩,
      ⟨(some 95), (.pure .pick), [.t 92, .t 94, .c (.bool false)], none⟩,
      ⟨(some 96), (.pure .mov), [.t 95], none⟩,
      ⟨(some 97), (.pure .mov), [.t 5], (some (96, true))⟩,
      ⟨(some 98), (.pure .mov), [.t 1], (some (96, true))⟩,
      ⟨(some 99), (.call 33), [.t 97, .t 98, .c (.int .i64 (Int.ofNat 5))], (some (96, true))⟩,
      ⟨(some 100), (.pure .lenS), [.t 99], (some (96, true))⟩,
      ⟨(some 101), (.pure (.bin .eql)), [.t 100, .c (.int .i64 (Int.ofNat 0))], (some (96, true))⟩,
      ⟨(some 102), (.pure .pick), [.t 96, .t 101, .c (.bool false)], none⟩,
      ⟨(some 103), (.pure .mov), [.t 102], none⟩,
      ⟨(some 104), (.pure .mov), [.t 5], (some (103, true))⟩,
      ⟨(some 105), (.pure .mov), [.t 1], (some (103, true))⟩,
      ⟨(some 106), (.call 39), [.t 104, .t 105, .c (.int .i64 (Int.ofNat 5))], (some (103, true))⟩,
      ⟨(some 107), (.pure .lenS), [.t 106], (some (103, true))⟩,
      ⟨(some 108), (.pure (.bin .eql)), [.t 107, .c (.int .i64 (Int.ofNat 0))], (some (103, true))⟩,
      ⟨(some 109), (.pure .pick), [.t 103, .t 108, .c (.bool false)], none⟩,
      ⟨(some 110), (.pure .mov), [.t 109], none⟩,
      ⟨(some 111), (.pure .mov), [.t 5], (some (110, true))⟩,
      ⟨(some 112), (.call 40), [.t 111], (some (110, true))⟩,
      ⟨(some 113), (.pure .lenS), [.t 112], (some (110, true))⟩,
      ⟨(some 114), (.pure (.bin .eql)), [.t 113, .c (.int .i64 (Int.ofNat 0))], (some (110, true))⟩,
      ⟨(some 115), (.pure .pick), [.t 110, .t 114, .c (.bool false)], none⟩,
      ⟨(some 4), (.pure .mov), [.t 115], none⟩] false) c10_7)
def c10_5 : C := (.seq (.region [
      ⟨(some 44), (.pure .mov), [.t 5], none⟩,
      ⟨(some 45), (.pure .mov), [.t 1], none⟩,
      ⟨(some 46), (.pure .mov), [.t 1], none⟩,
      ⟨(some 47), (.pure .mov), [.t 1], none⟩,
      ⟨(some 48), (.call 38), [.t 44, .t 45, .c (.int .i64 (Int.ofNat 0)), .t 46, .t 47], none⟩,
      ⟨(some 43), (.pure .mov), [.t 48], none⟩,
      ⟨(some 49), (.pure (.extract 0)), [.t 43], none⟩,
      ⟨(some 50), (.pure (.extract 1)), [.t 43], none⟩,
      ⟨(some 15), (.pure .mov), [.t 49], none⟩,
      ⟨(some 16), (.pure .mov), [.t 50], none⟩] false) c10_6)
def c10_4 : C := (.seq (.region [
      ⟨(some 37), (.pure .mov), [.t 5], none⟩,
      ⟨(some 38), (.pure .mov), [.t 1], none⟩,
      ⟨(some 39), (.pure .mov), [.t 1], none⟩,
      ⟨(some 40), (.call 37), [.t 37, .t 38, .t 39], none⟩,
      ⟨(some 36), (.pure .mov), [.t 40], none⟩,
      ⟨(some 41), (.pure (.extract 0)), [.t 36], none⟩,
      ⟨(some 42), (.pure (.extract 1)), [.t 36], none⟩,
      ⟨(some 13), (.pure .mov), [.t 41], none⟩,
      ⟨(some 14), (.pure .mov), [.t 42], none⟩] false) c10_5)
def c10_3 : C := (.seq (.region [
      ⟨(some 31), (.pure .mov), [.t 5], none⟩,
      ⟨(some 32), (.pure .mov), [.t 1], none⟩,
      ⟨(some 33), (.call 36), [.t 31, .t 32], none⟩,
      ⟨(some 30), (.pure .mov), [.t 33], none⟩,
      ⟨(some 34), (.pure (.extract 0)), [.t 30], none⟩,
      ⟨(some 35), (.pure (.extract 1)), [.t 30], none⟩,
      ⟨(some 11), (.alloc (.alloc [(.int .i64 (Int.ofNat 0)), (.int .i64 (Int.ofNat 0)), (.int .i64 (Int.ofNat 0))])), [], none⟩,
      ⟨none, (.eff (.store 3)), [.t 11, .t 34], none⟩,
      ⟨(some 12), (.pure .mov), [.t 35], none⟩] false) c10_4)
def c10_2 : C := (.seq (.region [
      ⟨(some 25), (.pure .mov), [.t 5], none⟩,
      ⟨(some 26), (.pure .mov), [.t 1], none⟩,
      ⟨(some 27), (.call 35), [.t 25, .t 26], none⟩,
      ⟨(some 24), (.pure .mov), [.t 27], none⟩,
      ⟨(some 28), (.pure (.extract 0)), [.t 24], none⟩,
      ⟨(some 29), (.pure (.extract 1)), [.t 24], none⟩,
      ⟨(some 9), (.alloc (.alloc [(.int .i64 (Int.ofNat 0)), (.int .i64 (Int.ofNat 0)), (.int .i64 (Int.ofNat 0)), (.int .i64 (Int.ofNat 0)), (.int .i64 (Int.ofNat 0)), (.int .i64 (Int.ofNat 0)), (.int .i64 (Int.ofNat 0)), (.int .i64 (Int.ofNat 0)), (.int .i64 (Int.ofNat 0)), (.string ⟨⟨[]⟩⟩)])), [], none⟩,
      ⟨none, (.eff (.store 10)), [.t 9, .t 28], none⟩,
      ⟨(some 10), (.pure .mov), [.t 29], none⟩] false) c10_3)
def c10_1 : C := (.seq (.region [
      ⟨(some 18), (.pure .mov), [.t 5], none⟩,
      ⟨(some 19), (.read (.load 10 true) []), [.t 2], none⟩,
      ⟨(some 20), (.call 29), [.t 18, .t 19], none⟩,
      ⟨(some 17), (.pure .mov), [.t 20], none⟩,
      ⟨(some 21), (.pure (.extract 0)), [.t 17], none⟩,
      ⟨(some 22), (.pure (.extract 1)), [.t 17], none⟩,
      ⟨(some 23), (.pure (.extract 2)), [.t 17], none⟩,
      ⟨(some 7), (.alloc (.alloc [(.int .i64 (Int.ofNat 0)), (.int .i64 (Int.ofNat 0)), (.int .i64 (Int.ofNat 0))])), [], none⟩,
      ⟨(some 6), (.pure .mov), [.t 21], none⟩,
      ⟨none, (.eff (.store 3)), [.t 7, .t 22], none⟩,
      ⟨(some 8), (.pure .mov), [.t 23], none⟩] false) c10_2)
def c10_0 : C := (.seq (.region [
      ⟨(some 5), (.pure .mov), [.c (.pointer none)], none⟩] false) c10_1)
def k10 : DFn := ⟨116, (.seq (.region [
      ⟨(some 2), (.alloc .box), [.t 0], none⟩,
      ⟨(some 4), (.pure .mov), [.c (.bool false)], none⟩] false) c10_0), [.tmp 4]⟩
theorem c10 : (match Tryz.prog.funcs[10]? with | some fn => compileFn Tryz.prog 4 [none, none, none, none, none, none, none, none, some [4]] fn | none => none) = some k10 := by kernel_rfl
theorem e10 (tb : Nat → Option DFn) (nv : CallF) (a0 a1 : Value) (H : Heap) (Q : Value → Heap → Prop) : wFn tb nv k10 [a0, a1] H Q = (
    wA .box [a0] H fun x0 H1 =>
    wR (.load 10 true) [x0] H1 fun x2 =>
    Ev tb nv 29 [(.pointer none), x2] H1 fun x3 H4 =>
    wP (.extract 0) [x3] fun x5 =>
    wP (.extract 1) [x3] fun x6 =>
    wP (.extract 2) [x3] fun x7 =>
    wA (.alloc [(.int .i64 0), (.int .i64 0), (.int .i64 0)]) [] H4 fun x8 H9 =>
    wE (.store 3) [x8, x6] H9 fun x10 H11 =>
    Ev tb nv 35 [(.pointer none), a1] H11 fun x12 H13 =>
    wP (.extract 0) [x12] fun x14 =>
    wP (.extract 1) [x12] fun x15 =>
    wA (.alloc [(.int .i64 0), (.int .i64 0), (.int .i64 0), (.int .i64 0), (.int .i64 0), (.int .i64 0), (.int .i64 0), (.int .i64 0), (.int .i64 0), (.string ⟨⟨[]⟩⟩)]) [] H13 fun x16 H17 =>
    wE (.store 10) [x16, x14] H17 fun x18 H19 =>
    Ev tb nv 36 [(.pointer none), a1] H19 fun x20 H21 =>
    wP (.extract 0) [x20] fun x22 =>
    wP (.extract 1) [x20] fun x23 =>
    wA (.alloc [(.int .i64 0), (.int .i64 0), (.int .i64 0)]) [] H21 fun x24 H25 =>
    wE (.store 3) [x24, x22] H25 fun x26 H27 =>
    Ev tb nv 37 [(.pointer none), a1, a1] H27 fun x28 H29 =>
    wP (.extract 0) [x28] fun x30 =>
    wP (.extract 1) [x28] fun x31 =>
    Ev tb nv 38 [(.pointer none), a1, (.int .i64 0), a1, a1] H29 fun x32 H33 =>
    wP (.extract 0) [x32] fun x34 =>
    wP (.extract 1) [x32] fun x35 =>
    Ev tb nv 26 [] H33 fun x36 H37 =>
    asB x36 fun b38 => onB b38 (wP (.bin .eql) [x7, (.int .i64 12)] fun x39 =>
    asB x39 fun b40 => onB b40 (wP (.bin .eql) [x15, (.int .i64 12)] fun x41 =>
    asB x41 fun b42 => onB b42 (wP (.bin .eql) [x23, (.int .i64 12)] fun x43 =>
    asB x43 fun b44 => onB b44 (wP (.un .not) [x31] fun x45 =>
    asB x45 fun b46 => onB b46 (Ev tb nv 31 [(.pointer none)] H37 fun x47 H48 =>
    wP (.bin .eql) [x47, (.int .i64 0)] fun x49 =>
    asB x49 fun b50 => onB b50 (Ev tb nv 30 [(.pointer none), a1, a1] H48 fun x51 H52 =>
    wP (.field 0 1 false) [x51] fun x53 =>
    wP (.bin .eql) [x53, (.int .i64 12)] fun x54 =>
    asB x54 fun b55 => onB b55 (Ev tb nv 32 [(.pointer none), a1] H52 fun x56 H57 =>
    wP (.bin .eql) [x56, (.int .i64 0)] fun x58 =>
    asB x58 fun b59 => onB b59 (wP .lenS [x34] fun x60 =>
    wP (.bin .eql) [x60, (.int .i64 0)] fun x61 =>
    asB x61 fun b62 => onB b62 (wP (.bin .eql) [x35, (.int .i64 0)] fun x63 =>
    asB x63 fun b64 => onB b64 (Ev tb nv 33 [(.pointer none), a1, (.int .i64 5)] H57 fun x65 H66 =>
    wP .lenS [x65] fun x67 =>
    wP (.bin .eql) [x67, (.int .i64 0)] fun x68 =>
    asB x68 fun b69 => onB b69 (Ev tb nv 39 [(.pointer none), a1, (.int .i64 5)] H66 fun x70 H71 =>
    wP .lenS [x70] fun x72 =>
    wP (.bin .eql) [x72, (.int .i64 0)] fun x73 =>
    asB x73 fun b74 => onB b74 (Ev tb nv 40 [(.pointer none)] H71 fun x75 H76 =>
    wP .lenS [x75] fun x77 =>
    wP (.bin .eql) [x77, (.int .i64 0)] fun x78 =>
    atK (Q x78 H76))
    (atK (Q (.bool false) H71)))
    (atK (Q (.bool false) H66)))
    (atK (Q (.bool false) H57)))
    (atK (Q (.bool false) H57)))
    (atK (Q (.bool false) H57)))
    (atK (Q (.bool false) H52)))
    (atK (Q (.bool false) H48)))
    (atK (Q (.bool false) H37)))
    (atK (Q (.bool false) H37)))
    (atK (Q (.bool false) H37)))
    (atK (Q (.bool false) H37)))
    (atK (Q (.bool false) H37))) := by kernel_rfl

/-- tompion/tompionlaw09.awake -/
def c26_11 : C := .ret
def c26_10 : C := (.keep [0] c26_11)
def c26_9 : C := (.seq (.region [
      ⟨(some 35), (.pure .mov), [.t 2], none⟩,
      ⟨(some 36), (.pure (.bin .eql)), [.t 35, .c (.int .i64 (Int.ofNat 1))], none⟩,
      ⟨(some 37), (.pure .mov), [.t 36], none⟩,
      ⟨(some 38), (.pure (.fadd 1)), [.t 3], (some (37, true))⟩,
      ⟨(some 39), (.read (.load 1 false) []), [.t 38], (some (37, true))⟩,
      ⟨(some 40), (.pure (.bin .eql)), [.t 39, .c (.int .i64 (Int.ofNat 1))], (some (37, true))⟩,
      ⟨(some 41), (.pure .pick), [.t 37, .t 40, .c (.bool false)], none⟩,
      ⟨(some 42), (.pure .mov), [.t 41], none⟩,
      ⟨(some 43), (.pure .mov), [.t 4], (some (42, true))⟩,
      ⟨(some 44), (.pure (.bin .eql)), [.t 43, .c (.int .i64 (Int.ofNat 0))], (some (42, true))⟩,
      ⟨(some 45), (.pure .pick), [.t 42, .t 44, .c (.bool false)], none⟩,
      ⟨(some 46), (.pure .mov), [.t 45], none⟩,
      ⟨(some 47), (.pure .mov), [.t 5], (some (46, true))⟩,
      ⟨(some 48), (.pure .lenS), [.t 47], (some (46, true))⟩,
      ⟨(some 49), (.pure (.bin .eql)), [.t 48, .c (.int .i64 (Int.ofNat 1))], (some (46, true))⟩,
      ⟨(some 50), (.pure .pick), [.t 46, .t 49, .c (.bool false)], none⟩,
      ⟨(some 51), (.pure .mov), [.t 50], none⟩,
      ⟨(some 52), (.pure .mov), [.t 5], (some (51, true))⟩,
      ⟨(some 53), (.pure (.iaddS 10)), [.t 52, .c (.int .i64 (Int.ofNat 0))], (some (51, true))⟩,
      ⟨(some 54), (.read (.load 10 true) []), [.t 53], (some (51, true))⟩,
      ⟨(some 55), (.pure (.build [(.int .i64 (Int.ofNat 0)), (.int .i64 (Int.ofNat 0)), (.int .i64 (Int.ofNat 0)), (.int .i64 (Int.ofNat 0)), (.int .i64 (Int.ofNat 0)), (.int .i64 (Int.ofNat 0)), (.int .i64 (Int.ofNat 0)), (.int .i64 (Int.ofNat 0)), (.int .i64 (Int.ofNat 0)), (.string ⟨⟨[]⟩⟩)] [(0, 1), (3, 1), (4, 1), (5, 1), (7, 1)])), [.c (.int .i64 (Int.ofNat 3)), .c (.int .i64 (Int.ofNat 7)), .c (.int .i64 (Int.ofNat 1)), .c (.int .i64 (Int.ofNat 9)), .c (.int .i64 (Int.ofNat 9))], (some (51, true))⟩,
      ⟨(some 56), (.pure (.aggEq false [.i, .i, .i, .i, .i, .i, .i, .i, .i, .s])), [.t 54, .t 55], (some (51, true))⟩,
      ⟨(some 57), (.pure .pick), [.t 51, .t 56, .c (.bool false)], none⟩,
      ⟨(some 58), (.pure .mov), [.t 57], none⟩,
      ⟨(some 59), (.pure .mov), [.t 6], (some (58, true))⟩,
      ⟨(some 60), (.pure (.bin .eql)), [.t 59, .c (.int .i64 (Int.ofNat 2))], (some (58, true))⟩,
      ⟨(some 61), (.pure .pick), [.t 58, .t 60, .c (.bool false)], none⟩,
      ⟨(some 62), (.pure .mov), [.t 61], none⟩,
      ⟨(some 63), (.pure .mov), [.t 8], (some (62, true))⟩,
      ⟨(some 64), (.pure (.bin .eql)), [.t 63, .c (.int .i64 (Int.ofNat 0))], (some (62, true))⟩,
      ⟨(some 65), (.pure .pick), [.t 62, .t 64, .c (.bool false)], none⟩,
      ⟨(some 66), (.pure .mov), [.t 65], none⟩,
      ⟨(some 67), (.pure .mov), [.t 1], (some (66, true))⟩,
      ⟨(some 68), (.call 30), [.t 67, .c (.int .i64 (Int.ofNat 7)), .c (.int .i64 (Int.ofNat 1))], (some (66, true))⟩,
      ⟨(some 69), (.pure (.build [(.int .i64 (Int.ofNat 0)), (.int .i64 (Int.ofNat 0)), (.int .i64 (Int.ofNat 0))] [(1, 1), (2, 1)])), [.c (.int .i64 (Int.ofNat 1)), .c (.int .i64 (Int.ofNat 9))], (some (66, true))⟩,
      ⟨(some 70), (.pure (.aggEq false [.i, .i, .i])), [.t 68, .t 69], (some (66, true))⟩,
      ⟨(some 71), (.pure .pick), [.t 66, .t 70, .c (.bool false)], none⟩,
      ⟨(some 72), (.pure .mov), [.t 71], none⟩,
      ⟨(some 73), (.pure .mov), [.t 1], (some (72, true))⟩,
      ⟨(some 74), (.call 30), [.t 73, .c (.int .i64 (Int.ofNat 7)), .c (.int .i64 (Int.ofNat 2))], (some (72, true))⟩,
      ⟨(some 75), (.pure (.field 0 1 false)), [.t 74], (some (72, true))⟩,
      ⟨(some 76), (.pure (.bin .eql)), [.t 75, .c (.int .i64 (Int.ofNat 6))], (some (72, true))⟩,
      ⟨(some 77), (.pure .pick), [.t 72, .t 76, .c (.bool false)], none⟩,
      ⟨(some 78), (.pure .mov), [.t 77], none⟩,
      ⟨(some 79), (.pure .mov), [.t 1], (some (78, true))⟩,
      ⟨(some 80), (.call 32), [.t 79, .c (.int .i64 (Int.ofNat 7))], (some (78, true))⟩,
      ⟨(some 81), (.pure (.bin .eql)), [.t 80, .c (.int .i64 (Int.ofNat 2))], (some (78, true))⟩,
      ⟨(some 82), (.pure .pick), [.t 78, .t 81, .c (.bool false)], none⟩,
      ⟨(some 83), (.pure .mov), [.t 82], none⟩,
      ⟨(some 84), (.pure .mov), [.t 9], (some (83, true))⟩,
      ⟨(some 85), (.pure (.bin .eql)), [.t 84, .c (.int .i64 (Int.ofNat 2))], (some (83, true))⟩,
      ⟨(some 86), (.pure .pick), [.t 83, .t 85, .c (.bool false)], none⟩,
      ⟨(some 87), (.pure .mov), [.t 86], none⟩,
      ⟨(some 88), (.pure .mov), [.t 10], (some (87, true))⟩,
      ⟨(some 89), (.pure .pick), [.t 87, .t 88, .c (.bool false)], none⟩,
      ⟨(some 90), (.pure .mov), [.t 89], none⟩,
      ⟨(some 91), (.pure .mov), [.t 1], (some (90, true))⟩,
      ⟨(some 92), (.call 33), [.t 91, .c (.int .i64 (Int.ofNat 99)), .c (.int .i64 (Int.ofNat 5))], (some (90, true))⟩,
      ⟨(some 93), (.pure .lenS), [.t 92], (some (90, true))⟩,
      ⟨(some 94), (.pure (.bin .eql)), [.t 93, .c (.int .i64 (Int.ofNat 0))], (some (90, true))⟩,
      ⟨(some 95), (.pure .pick), [.t 90, .t 94, .c (.bool false)], none⟩,
      ⟨(some 96), (.pure .mov), [.t 95], none⟩,
      ⟨(some 97), (.pure .mov), [.t 1], (some (96, true))⟩,
      ⟨(some 98), (.call 31), [.t 97], (some (96, true))⟩,
      ⟨(some 99), (.pure (.bin .eql)), [.t 98, .c (.int .i64 (Int.ofNat 2))], (some (96, true))⟩,
      ⟨(some 100), (.pure .pick), [.t 96, .t 99, .c (.bool false)], none⟩,
      ⟨(some 0), (.pure .mov), [.t 100], none⟩] false) c26_10)
def c26_8 : C := (.seq (.region [
      ⟨(some 31), (.pure .mov), [.t 1], none⟩,
      ⟨(some 32), (.call 37), [.t 31, .c (.int .i64 (Int.ofNat 1)), .c (.int .i64 (Int.ofNat 2))], none⟩,
      ⟨(some 30), (.pure .mov), [.t 32], none⟩,
      ⟨(some 33), (.pure (.extract 0)), [.t 30], none⟩,
      ⟨(some 34), (.pure (.extract 1)), [.t 30], none⟩,
      ⟨(some 9), (.pure .mov), [.t 33], none⟩,
      ⟨(some 10), (.pure .mov), [.t 34], none⟩] false) c26_9)
def c26_7 : C := (.seq (.region [
      ⟨(some 24), (.pure .mov), [.t 1], none⟩,
      ⟨(some 25), (.pure (.build [(.int .i64 (Int.ofNat 0)), (.int .i64 (Int.ofNat 0)), (.int .i64 (Int.ofNat 0)), (.int .i64 (Int.ofNat 0)), (.int .i64 (Int.ofNat 0)), (.int .i64 (Int.ofNat 0)), (.int .i64 (Int.ofNat 0)), (.int .i64 (Int.ofNat 0)), (.int .i64 (Int.ofNat 0)), (.string ⟨⟨[]⟩⟩)] [(0, 1), (1, 1), (2, 1), (3, 1)])), [.c (.int .i64 (Int.ofNat 2)), .c (.int .i64 (Int.ofNat 1)), .c (.int .i64 (Int.ofNat 2)), .c (.int .i64 (Int.ofNat 7))], none⟩,
      ⟨(some 26), (.call 29), [.t 24, .t 25], none⟩,
      ⟨(some 23), (.pure .mov), [.t 26], none⟩,
      ⟨(some 27), (.pure (.extract 0)), [.t 23], none⟩,
      ⟨(some 28), (.pure (.extract 1)), [.t 23], none⟩,
      ⟨(some 29), (.pure (.extract 2)), [.t 23], none⟩,
      ⟨(some 7), (.alloc (.alloc [(.int .i64 (Int.ofNat 0)), (.int .i64 (Int.ofNat 0)), (.int .i64 (Int.ofNat 0))])), [], none⟩,
      ⟨(some 6), (.pure .mov), [.t 27], none⟩,
      ⟨none, (.eff (.store 3)), [.t 7, .t 28], none⟩,
      ⟨(some 8), (.pure .mov), [.t 29], none⟩] false) c26_8)
def c26_6 : C := (.seq (.region [
      ⟨(some 21), (.pure .mov), [.t 1], none⟩,
      ⟨(some 22), (.call 33), [.t 21, .c (.int .i64 (Int.ofNat 9)), .c (.int .i64 (Int.ofNat 5))], none⟩,
      ⟨(some 5), (.pure .mov), [.t 22], none⟩] false) c26_7)
def c26_2 : C := (.seq (.region [
      ⟨(some 15), (.pure .mov), [.t 1], none⟩,
      ⟨(some 16), (.pure (.build [(.int .i64 (Int.ofNat 0)), (.int .i64 (Int.ofNat 0)), (.int .i64 (Int.ofNat 0)), (.int .i64 (Int.ofNat 0)), (.int .i64 (Int.ofNat 0)), (.int .i64 (Int.ofNat 0)), (.int .i64 (Int.ofNat 0)), (.int .i64 (Int.ofNat 0)), (.int .i64 (Int.ofNat 0)), (.string ⟨⟨[]⟩⟩)] [(0, 1), (1, 1), (2, 1), (3, 1), (6, 1)])), [.c (.int .i64 (Int.ofNat 1)), .c (.int .i64 (Int.ofNat 1)), .c (.int .i64 (Int.ofNat 1)), .c (.int .i64 (Int.ofNat 7)), .c (.int .i64 (Int.ofNat 9))], none⟩,
      ⟨(some 17), (.call 29), [.t 15, .t 16], none⟩,
      ⟨(some 14), (.pure .mov), [.t 17], none⟩,
      ⟨(some 18), (.pure (.extract 0)), [.t 14], none⟩,
      ⟨(some 19), (.pure (.extract 1)), [.t 14], none⟩,
      ⟨(some 20), (.pure (.extract 2)), [.t 14], none⟩,
      ⟨(some 3), (.alloc (.alloc [(.int .i64 (Int.ofNat 0)), (.int .i64 (Int.ofNat 0)), (.int .i64 (Int.ofNat 0))])), [], none⟩,
      ⟨(some 2), (.pure .mov), [.t 18], none⟩,
      ⟨none, (.eff (.store 3)), [.t 3, .t 19], none⟩,
      ⟨(some 4), (.pure .mov), [.t 20], none⟩] false) c26_6)
def c26_5 : C := .ret
def c26_4 : C := (.keep [0] c26_5)
def c26_3 : C := (.cond (.t 13) (.seq (.region [
      ⟨(some 0), (.pure .mov), [.c (.bool false)], none⟩] false) c26_4)
    .skip)
def c26_1 : C := (.seq (.seq (.region [
      ⟨(some 12), (.pure .mov), [.t 1], none⟩,
      ⟨(some 13), (.pure (.nilEq false .ptr)), [.t 12], none⟩] false) c26_3) c26_2)
def c26_0 : C := (.seq (.region [
      ⟨(some 11), (.call 28), [.c (.int .i64 (Int.ofNat 3))], none⟩,
      ⟨(some 1), (.pure .mov), [.t 11], none⟩] false) c26_1)
def k26 : DFn := ⟨101, (.seq (.region [
      ⟨(some 0), (.pure .mov), [.c (.bool false)], none⟩] false) c26_0), [.tmp 0]⟩
theorem c26 : (match Tryz.prog.funcs[26]? with | some fn => compileFn Tryz.prog 4 [none, none, none, none, none, some [0], none, none, none, none, none, some [0]] fn | none => none) = some k26 := by kernel_rfl


/-- tompion/oplog.New -/
def c28_2 : C := .ret
def c28_1 : C := (.keep [2] c28_2)
def c28_0 : C := (.seq (.region [
      ⟨(some 3), (.pure .mov), [.t 0], none⟩,
      ⟨(some 4), (.call 53), [.t 3], none⟩,
      ⟨(some 5), (.alloc .mkmap), [], none⟩,
      ⟨(some 6), (.alloc .mkmap), [], none⟩,
      ⟨(some 7), (.call 54), [.c (.int .i64 (Int.ofNat 0))], none⟩,
      ⟨(some 8), (.pure (.build [(.pointer none), (.slice none 0 0), (.map none), (.map none), (.pointer none)] [(0, 1), (2, 1), (3, 1), (4, 1)])), [.t 4, .t 5, .t 6, .t 7], none⟩,
      ⟨(some 9), (.alloc .box), [.t 8], none⟩,
      ⟨(some 2), (.pure .mov), [.t 9], none⟩] false) c28_1)
def k28 : DFn := ⟨10, (.seq (.region [
      ⟨(some 2), (.pure .mov), [.c (.pointer none)], none⟩] false) c28_0), [.tmp 2]⟩
theorem c28 : (match Tryz.prog.funcs[28]? with | some fn => compileFn Tryz.prog 4 [none, none, some [2]] fn | none => none) = some k28 := by kernel_rfl


/-- (*tompion/oplog.Log).Append -/
def c29_28 : C := .ret
def c29_27 : C := (.keep [4, 5, 6] c29_28)
def c29_26 : C := (.seq (.region [
      ⟨(some 126), (.pure .mov), [.t 4], none⟩,
      ⟨(some 127), (.pure (.fadd 10)), [.t 10], none⟩,
      ⟨(some 128), (.read (.load 3 true) []), [.t 127], none⟩,
      ⟨(some 4), (.pure .mov), [.t 126], none⟩,
      ⟨none, (.eff (.store 3)), [.t 5, .t 128], none⟩,
      ⟨(some 6), (.pure .mov), [.c (.int .i64 (Int.ofNat 0))], none⟩] false) c29_27)
def c29_25 : C := (.seq (.region [
      ⟨(some 116), (.pure .mov), [.t 0], none⟩,
      ⟨(some 117), (.pure .mov), [.t 0], none⟩,
      ⟨(some 118), (.pure .nilchk), [.t 117], none⟩,
      ⟨(some 119), (.pure (.fadd 1)), [.t 118], none⟩,
      ⟨(some 120), (.read (.load 1 false) []), [.t 119], none⟩,
      ⟨(some 121), (.read (.load 19 true) []), [.t 10], none⟩,
      ⟨(some 122), (.alloc (.bslice [(.int .i64 (Int.ofNat 0)), (.int .i64 (Int.ofNat 0)), (.int .i64 (Int.ofNat 0)), (.int .i64 (Int.ofNat 0)), (.int .i64 (Int.ofNat 0)), (.int .i64 (Int.ofNat 0)), (.int .i64 (Int.ofNat 0)), (.int .i64 (Int.ofNat 0)), (.int .i64 (Int.ofNat 0)), (.string ⟨⟨[]⟩⟩), (.int .i64 (Int.ofNat 0)), (.int .i64 (Int.ofNat 0)), (.int .i64 (Int.ofNat 0)), (.int .i64 (Int.ofNat 0)), (.int .i64 (Int.ofNat 0)), (.int .i64 (Int.ofNat 0)), (.int .i64 (Int.ofNat 0)), (.int .i64 (Int.ofNat 0)), (.int .i64 (Int.ofNat 0))] [(0, 19)] 19 1)), [.t 121], none⟩,
      ⟨(some 123), (.eff (.app 19 160)), [.t 120, .t 122], none⟩,
      ⟨(some 124), (.pure .nilchk), [.t 116], none⟩,
      ⟨(some 125), (.pure (.fadd 1)), [.t 124], none⟩,
      ⟨none, (.eff (.store 1)), [.t 125, .t 123], none⟩] false) c29_26)
def c29_20 : C := (.keep [0, 4, 5, 10] c29_25)
def c29_24 : C := (.cond (.t 109) (.region [
      ⟨(some 110), (.pure .mov), [.t 0], none⟩,
      ⟨(some 111), (.pure .nilchk), [.t 110], none⟩,
      ⟨(some 112), (.pure (.fadd 3)), [.t 111], none⟩,
      ⟨(some 113), (.read (.load 1 false) []), [.t 112], none⟩,
      ⟨(some 114), (.read (.load 2 true) []), [.t 11], none⟩,
      ⟨(some 115), (.pure .mov), [.t 4], none⟩,
      ⟨none, (.eff (.mupd (.agg [.i, .i]))), [.t 113, .t 114, .t 115], none⟩] false)
    .skip)
def c29_23 : C := (.seq (.region [
      ⟨(some 108), (.pure .mov), [.t 13], none⟩,
      ⟨(some 109), (.pure (.un .not)), [.t 108], none⟩] false) c29_24)
def c29_22 : C := (.cond (.t 98) (.seq (.region [
      ⟨(some 100), (.pure .mov), [.t 0], none⟩,
      ⟨(some 101), (.pure .nilchk), [.t 100], none⟩,
      ⟨(some 102), (.pure (.fadd 3)), [.t 101], none⟩,
      ⟨(some 103), (.read (.load 1 false) []), [.t 102], none⟩,
      ⟨(some 104), (.read (.load 2 true) []), [.t 11], none⟩,
      ⟨(some 105), (.read (.lookup (.agg [.i, .i]) (.int .i64 (Int.ofNat 0)) true) []), [.t 103, .t 104], none⟩,
      ⟨(some 99), (.pure .mov), [.t 105], none⟩,
      ⟨(some 106), (.pure (.extract 0)), [.t 99], none⟩,
      ⟨(some 107), (.pure (.extract 1)), [.t 99], none⟩,
      ⟨(some 12), (.pure .mov), [.t 106], none⟩,
      ⟨(some 13), (.pure .mov), [.t 107], none⟩] false) c29_23)
    .skip)
def c29_21 : C := (.seq (.region [
      ⟨(some 91), (.pure (.fadd 0)), [.t 3], none⟩,
      ⟨(some 92), (.read (.load 1 false) []), [.t 91], none⟩,
      ⟨(some 93), (.pure (.bin .eql)), [.t 92, .c (.int .i64 (Int.ofNat 1))], none⟩,
      ⟨(some 94), (.pure .mov), [.t 93], none⟩,
      ⟨(some 95), (.pure (.fadd 0)), [.t 3], (some (94, false))⟩,
      ⟨(some 96), (.read (.load 1 false) []), [.t 95], (some (94, false))⟩,
      ⟨(some 97), (.pure (.bin .eql)), [.t 96, .c (.int .i64 (Int.ofNat 2))], (some (94, false))⟩,
      ⟨(some 98), (.pure .pick), [.t 94, .c (.bool true), .t 97], none⟩] false) c29_22)
def c29_19 : C := (.seq (.seq (.region [
      ⟨(some 86), (.pure (.fadd 1)), [.t 3], none⟩,
      ⟨(some 87), (.read (.load 1 false) []), [.t 86], none⟩,
      ⟨(some 88), (.pure (.fadd 2)), [.t 3], none⟩,
      ⟨(some 89), (.read (.load 1 false) []), [.t 88], none⟩,
      ⟨(some 90), (.pure (.build [(.int .i64 (Int.ofNat 0)), (.int .i64 (Int.ofNat 0))] [(0, 1), (1, 1)])), [.t 87, .t 89], none⟩,
      ⟨(some 11), (.alloc (.alloc [(.int .i64 (Int.ofNat 0)), (.int .i64 (Int.ofNat 0))])), [], none⟩,
      ⟨none, (.eff (.store 2)), [.t 11, .t 90], none⟩] false) c29_21) c29_20)
def c29_15 : C := (.keep [0, 3, 4, 5, 10] c29_19)
def c29_18 : C := (.cond (.t 72) (.region [
      ⟨(some 73), (.pure .mov), [.t 4], none⟩,
      ⟨(some 74), (.pure (.fadd 1)), [.t 8], none⟩,
      ⟨(some 75), (.read (.load 1 false) []), [.t 74], none⟩,
      ⟨(some 76), (.pure (.fadd 3)), [.t 3], none⟩,
      ⟨(some 77), (.read (.load 1 false) []), [.t 76], none⟩,
      ⟨(some 78), (.pure (.fadd 4)), [.t 3], none⟩,
      ⟨(some 79), (.read (.load 1 false) []), [.t 78], none⟩,
      ⟨(some 80), (.pure (.fadd 5)), [.t 3], none⟩,
      ⟨(some 81), (.read (.load 1 false) []), [.t 80], none⟩,
      ⟨(some 82), (.pure (.fadd 7)), [.t 3], none⟩,
      ⟨(some 83), (.read (.load 1 false) []), [.t 82], none⟩,
      ⟨(some 84), (.pure (.build [(.int .i64 (Int.ofNat 0)), (.int .i64 (Int.ofNat 0)), (.int .i64 (Int.ofNat 0)), (.int .i64 (Int.ofNat 0)), (.int .i64 (Int.ofNat 0)), (.int .i64 (Int.ofNat 0))] [(0, 1), (1, 1), (2, 1), (3, 1), (4, 1), (5, 1)])), [.t 73, .t 75, .t 77, .t 79, .t 81, .t 83], none⟩,
      ⟨(some 85), (.pure (.fadd 13)), [.t 10], none⟩,
      ⟨none, (.eff (.store 6)), [.t 85, .t 84], none⟩] false)
    .skip)
def c29_17 : C := (.seq (.region [
      ⟨(some 70), (.pure (.fadd 0)), [.t 3], none⟩,
      ⟨(some 71), (.read (.load 1 false) []), [.t 70], none⟩,
      ⟨(some 72), (.pure (.bin .eql)), [.t 71, .c (.int .i64 (Int.ofNat 3))], none⟩] false) c29_18)
def c29_16 : C := (.cond (.t 64) (.seq (.region [
      ⟨(some 65), (.pure .mov), [.t 0], none⟩,
      ⟨(some 66), (.pure .mov), [.t 4], none⟩,
      ⟨(some 67), (.pure (.fadd 3)), [.t 3], none⟩,
      ⟨(some 68), (.read (.load 1 false) []), [.t 67], none⟩,
      ⟨(some 69), (.call 58), [.t 65, .t 66, .t 68], none⟩] false) c29_17)
    .skip)
def c29_14 : C := (.seq (.seq (.region [
      ⟨(some 58), (.pure (.fadd 10)), [.t 10], none⟩,
      ⟨(some 59), (.pure (.fadd 0)), [.t 58], none⟩,
      ⟨(some 60), (.read (.load 1 false) []), [.t 59], none⟩,
      ⟨(some 61), (.pure (.bin .eql)), [.t 60, .c (.int .i64 (Int.ofNat 0))], none⟩,
      ⟨(some 62), (.pure .mov), [.t 61], none⟩,
      ⟨(some 63), (.pure .mov), [.t 7], (some (62, true))⟩,
      ⟨(some 64), (.pure .pick), [.t 62, .t 63, .c (.bool false)], none⟩] false) c29_16) c29_15)
def c29_13 : C := (.seq (.region [
      ⟨(some 50), (.read (.load 10 true) [7]), [.t 3], none⟩,
      ⟨(some 51), (.pure .mov), [.t 0], none⟩,
      ⟨(some 52), (.pure .nilchk), [.t 51], none⟩,
      ⟨(some 53), (.pure (.fadd 0)), [.t 52], none⟩,
      ⟨(some 54), (.read (.load 1 false) []), [.t 53], none⟩,
      ⟨(some 55), (.read (.load 10 true) []), [.t 3], none⟩,
      ⟨(some 56), (.call 57), [.t 54, .t 55], none⟩,
      ⟨(some 57), (.pure (.build [(.int .i64 (Int.ofNat 0)), (.int .i64 (Int.ofNat 0)), (.int .i64 (Int.ofNat 0)), (.int .i64 (Int.ofNat 0)), (.int .i64 (Int.ofNat 0)), (.int .i64 (Int.ofNat 0)), (.int .i64 (Int.ofNat 0)), (.int .i64 (Int.ofNat 0)), (.int .i64 (Int.ofNat 0)), (.string ⟨⟨[]⟩⟩), (.int .i64 (Int.ofNat 0)), (.int .i64 (Int.ofNat 0)), (.int .i64 (Int.ofNat 0)), (.int .i64 (Int.ofNat 0)), (.int .i64 (Int.ofNat 0)), (.int .i64 (Int.ofNat 0)), (.int .i64 (Int.ofNat 0)), (.int .i64 (Int.ofNat 0)), (.int .i64 (Int.ofNat 0))] [(0, 10), (10, 3)])), [.t 50, .t 56], none⟩,
      ⟨(some 10), (.alloc (.alloc [(.int .i64 (Int.ofNat 0)), (.int .i64 (Int.ofNat 0)), (.int .i64 (Int.ofNat 0)), (.int .i64 (Int.ofNat 0)), (.int .i64 (Int.ofNat 0)), (.int .i64 (Int.ofNat 0)), (.int .i64 (Int.ofNat 0)), (.int .i64 (Int.ofNat 0)), (.int .i64 (Int.ofNat 0)), (.string ⟨⟨[]⟩⟩), (.int .i64 (Int.ofNat 0)), (.int .i64 (Int.ofNat 0)), (.int .i64 (Int.ofNat 0)), (.int .i64 (Int.ofNat 0)), (.int .i64 (Int.ofNat 0)), (.int .i64 (Int.ofNat 0)), (.int .i64 (Int.ofNat 0)), (.int .i64 (Int.ofNat 0)), (.int .i64 (Int.ofNat 0))])), [], none⟩,
      ⟨none, (.eff (.store 19)), [.t 10, .t 57], none⟩] true) c29_14)
def c29_12 : C := (.seq (.region [
      ⟨(some 41), (.pure .mov), [.t 0], none⟩,
      ⟨(some 42), (.pure .nilchk), [.t 41], none⟩,
      ⟨(some 43), (.pure (.fadd 0)), [.t 42], none⟩,
      ⟨(some 44), (.read (.load 1 false) []), [.t 43], none⟩,
      ⟨(some 45), (.pure (.fadd 3)), [.t 3], none⟩,
      ⟨(some 46), (.read (.load 1 false) []), [.t 45], none⟩,
      ⟨(some 47), (.call 56), [.t 44, .t 46], none⟩,
      ⟨(some 40), (.pure .mov), [.t 47], none⟩,
      ⟨(some 48), (.pure (.extract 0)), [.t 40], none⟩,
      ⟨(some 49), (.pure (.extract 1)), [.t 40], none⟩,
      ⟨(some 8), (.alloc (.alloc [(.int .i64 (Int.ofNat 0)), (.int .i64 (Int.ofNat 0)), (.int .i64 (Int.ofNat 0)), (.int .i64 (Int.ofNat 0)), (.string ⟨⟨[]⟩⟩)])), [], none⟩,
      ⟨none, (.eff (.store 5)), [.t 8, .t 48], none⟩,
      ⟨(some 9), (.pure .mov), [.t 49], none⟩] false) c29_13)
def c29_11 : C := (.seq (.region [
      ⟨(some 38), (.pure .mov), [.t 0], none⟩,
      ⟨(some 39), (.call 55), [.t 38, .t 3], none⟩,
      ⟨(some 7), (.pure .mov), [.t 39], none⟩] false) c29_12)
def c29_1 : C := (.seq (.region [
      ⟨(some 32), (.pure .mov), [.t 0], none⟩,
      ⟨(some 33), (.pure .nilchk), [.t 32], none⟩,
      ⟨(some 34), (.pure (.fadd 1)), [.t 33], none⟩,
      ⟨(some 35), (.read (.load 1 false) []), [.t 34], none⟩,
      ⟨(some 36), (.pure .lenS), [.t 35], none⟩,
      ⟨(some 37), (.pure (.bin .add)), [.t 36, .c (.int .i64 (Int.ofNat 1))], none⟩,
      ⟨(some 4), (.pure .mov), [.t 37], none⟩] false) c29_11)
def c29_4 : C := .ret
def c29_3 : C := (.keep [4, 5, 6] c29_4)
def c29_7 : C := .ret
def c29_6 : C := (.keep [4, 5, 6] c29_7)
def c29_10 : C := .ret
def c29_9 : C := (.keep [4, 5, 6] c29_10)
def c29_8 : C := (.cond (.t 26) (.seq (.region [
      ⟨(some 31), (.read (.load 3 true) []), [.t 5], none⟩,
      ⟨(some 4), (.pure .mov), [.c (.int .i64 (Int.ofNat 0))], none⟩,
      ⟨none, (.eff (.store 3)), [.t 5, .t 31], none⟩,
      ⟨(some 6), (.pure .mov), [.c (.int .i64 (Int.ofNat 15))], none⟩] false) c29_9)
    .skip)
def c29_5 : C := (.cond (.t 18) (.seq (.region [
      ⟨(some 25), (.read (.load 3 true) []), [.t 5], none⟩,
      ⟨(some 4), (.pure .mov), [.c (.int .i64 (Int.ofNat 0))], none⟩,
      ⟨none, (.eff (.store 3)), [.t 5, .t 25], none⟩,
      ⟨(some 6), (.pure .mov), [.c (.int .i64 (Int.ofNat 5))], none⟩] false) c29_6)
    (.seq (.region [
      ⟨(some 27), (.pure (.fadd 9)), [.t 3], none⟩,
      ⟨(some 28), (.read (.load 1 false) []), [.t 27], none⟩,
      ⟨(some 29), (.pure .lenStr), [.t 28], none⟩,
      ⟨(some 30), (.pure (.bin .gtr)), [.t 29, .c (.int .i64 (Int.ofNat 256))], none⟩,
      ⟨(some 26), (.pure .mov), [.t 30], none⟩] false) c29_8))
def c29_2 : C := (.cond (.t 14) (.seq (.region [
      ⟨(some 17), (.read (.load 3 true) []), [.t 5], none⟩,
      ⟨(some 4), (.pure .mov), [.c (.int .i64 (Int.ofNat 0))], none⟩,
      ⟨none, (.eff (.store 3)), [.t 5, .t 17], none⟩,
      ⟨(some 6), (.pure .mov), [.c (.int .i64 (Int.ofNat 12))], none⟩] false) c29_3)
    (.seq (.region [
      ⟨(some 19), (.pure .mov), [.t 0], none⟩,
      ⟨(some 20), (.pure .nilchk), [.t 19], none⟩,
      ⟨(some 21), (.pure (.fadd 1)), [.t 20], none⟩,
      ⟨(some 22), (.read (.load 1 false) []), [.t 21], none⟩,
      ⟨(some 23), (.pure .lenS), [.t 22], none⟩,
      ⟨(some 24), (.pure (.bin .geq)), [.t 23, .c (.int .i64 (Int.ofNat 2000))], none⟩,
      ⟨(some 18), (.pure .mov), [.t 24], none⟩] false) c29_5))
def c29_0 : C := (.seq (.block 0 (.seq (.region [
      ⟨(some 15), (.pure .mov), [.t 0], none⟩,
      ⟨(some 16), (.pure (.nilEq false .ptr)), [.t 15], none⟩,
      ⟨(some 14), (.pure .mov), [.t 16], none⟩] false) c29_2)) c29_1)
def k29 : DFn := ⟨129, (.seq (.region [
      ⟨(some 3), (.alloc .box), [.t 1], none⟩,
      ⟨(some 4), (.pure .mov), [.c (.int .i64 (Int.ofNat 0))], none⟩,
      ⟨(some 5), (.alloc (.alloc [(.int .i64 (Int.ofNat 0)), (.int .i64 (Int.ofNat 0)), (.int .i64 (Int.ofNat 0))])), [], none⟩,
      ⟨(some 6), (.pure .mov), [.c (.int .i64 (Int.ofNat 0))], none⟩] false) c29_0), [.tmp 4, .cell 5 3 true, .tmp 6]⟩
theorem c29 : (match Tryz.prog.funcs[29]? with | some fn => compileFn Tryz.prog 4 [none, none, none, none, some [4, 5, 6], none, none, some [4, 5, 6], none, none, some [4, 5, 6], none, none, none, none, some [0, 3, 4, 5, 10], none, none, none, some [0, 4, 5, 10], none, none, none, none, none, none, some [4, 5, 6]] fn | none => none) = some k29 := by kernel_rfl
def w29_19 (tb : Nat → Option DFn) (nv : CallF) (t0 t3 t4 t5 t10 : Value) (H : Heap) (Q : Value → Heap → Prop) : Prop := wC tb nv c29_19 (mkW [(0, t0), (3, t3), (4, t4), (5, t5), (10, t10)]) H (kFn [.tmp 4, .cell 5 3 true, .tmp 6] Q)
def w29_25 (tb : Nat → Option DFn) (nv : CallF) (t0 t4 t5 t10 : Value) (H : Heap) (Q : Value → Heap → Prop) : Prop := wC tb nv c29_25 (mkW [(0, t0), (4, t4), (5, t5), (10, t10)]) H (kFn [.tmp 4, .cell 5 3 true, .tmp 6] Q)
theorem e29 (tb : Nat → Option DFn) (nv : CallF) (a0 a1 : Value) (H : Heap) (Q : Value → Heap → Prop) : wFn tb nv k29 [a0, a1] H Q = (
    wA .box [a1] H fun x0 H1 =>
    wA (.alloc [(.int .i64 0), (.int .i64 0), (.int .i64 0)]) [] H1 fun x2 H3 =>
    wP (.nilEq false .ptr) [a0] fun x4 =>
    asB x4 fun b5 => onB b5 (wR (.load 3 true) [x2] H3 fun x6 =>
    wE (.store 3) [x2, x6] H3 fun x7 H8 =>
    atK (wR (.load 3 true) [x2] H8 fun x9 =>
    Q (.tuple ⟨[(.int .i64 0), x9, (.int .i64 12)]⟩) H8))
    (wP .nilchk [a0] fun x10 =>
    wP (.fadd 1) [x10] fun x11 =>
    wR (.load 1 false) [x11] H3 fun x12 =>
    wP .lenS [x12] fun x13 =>
    wP (.bin .geq) [x13, (.int .i64 2000)] fun x14 =>
    asB x14 fun b15 => onB b15 (wR (.load 3 true) [x2] H3 fun x16 =>
    wE (.store 3) [x2, x16] H3 fun x17 H18 =>
    atK (wR (.load 3 true) [x2] H18 fun x19 =>
    Q (.tuple ⟨[(.int .i64 0), x19, (.int .i64 5)]⟩) H18))
    (wP (.fadd 9) [x0] fun x20 =>
    wR (.load 1 false) [x20] H3 fun x21 =>
    wP .lenStr [x21] fun x22 =>
    wP (.bin .gtr) [x22, (.int .i64 256)] fun x23 =>
    asB x23 fun b24 => onB b24 (wR (.load 3 true) [x2] H3 fun x25 =>
    wE (.store 3) [x2, x25] H3 fun x26 H27 =>
    atK (wR (.load 3 true) [x2] H27 fun x28 =>
    Q (.tuple ⟨[(.int .i64 0), x28, (.int .i64 15)]⟩) H27))
    (wP .nilchk [a0] fun x29 =>
    wP (.fadd 1) [x29] fun x30 =>
    wR (.load 1 false) [x30] H3 fun x31 =>
    wP .lenS [x31] fun x32 =>
    wP (.bin .add) [x32, (.int .i64 1)] fun x33 =>
    Ev tb nv 55 [a0, x0] H3 fun x34 H35 =>
    wP .nilchk [a0] fun x36 =>
    wP (.fadd 0) [x36] fun x37 =>
    wR (.load 1 false) [x37] H35 fun x38 =>
    wP (.fadd 3) [x0] fun x39 =>
    wR (.load 1 false) [x39] H35 fun x40 =>
    Ev tb nv 56 [x38, x40] H35 fun x41 H42 =>
    wP (.extract 0) [x41] fun x43 =>
    wP (.extract 1) [x41] fun x44 =>
    wA (.alloc [(.int .i64 0), (.int .i64 0), (.int .i64 0), (.int .i64 0), (.string ⟨⟨[]⟩⟩)]) [] H42 fun x45 H46 =>
    wE (.store 5) [x45, x43] H46 fun x47 H48 =>
    wR (.load 10 true) [x0] H48 fun x49 =>
    wP .nilchk [a0] fun x50 =>
    wP (.fadd 0) [x50] fun x51 =>
    wR (.load 1 false) [x51] H48 fun x52 =>
    wR (.load 10 true) [x0] H48 fun x53 =>
    Ev tb nv 57 [x52, x53] H48 fun x54 H55 =>
    wP (.build [(.int .i64 0), (.int .i64 0), (.int .i64 0), (.int .i64 0), (.int .i64 0), (.int .i64 0), (.int .i64 0), (.int .i64 0), (.int .i64 0), (.string ⟨⟨[]⟩⟩), (.int .i64 0), (.int .i64 0), (.int .i64 0), (.int .i64 0), (.int .i64 0), (.int .i64 0), (.int .i64 0), (.int .i64 0), (.int .i64 0)] [(0, 10), (10, 3)]) [x49, x54] fun x56 =>
    wA (.alloc [(.int .i64 0), (.int .i64 0), (.int .i64 0), (.int .i64 0), (.int .i64 0), (.int .i64 0), (.int .i64 0), (.int .i64 0), (.int .i64 0), (.string ⟨⟨[]⟩⟩), (.int .i64 0), (.int .i64 0), (.int .i64 0), (.int .i64 0), (.int .i64 0), (.int .i64 0), (.int .i64 0), (.int .i64 0), (.int .i64 0)]) [] H55 fun x57 H58 =>
    wE (.store 19) [x57, x56] H58 fun x59 H60 =>
    wChk [H48, H48, H48, H48, H48, H48, H48, H55, H55, H58, H60] [⟨(.load 10 true), [x0], x49, [7]⟩] (wP (.fadd 10) [x57] fun x61 =>
    wP (.fadd 0) [x61] fun x62 =>
    wR (.load 1 false) [x62] H60 fun x63 =>
    wP (.bin .eql) [x63, (.int .i64 0)] fun x64 =>
    asB x64 fun b65 => onB b65 (asB x34 fun b66 => onB b66 (wP (.fadd 3) [x0] fun x67 =>
    wR (.load 1 false) [x67] H60 fun x68 =>
    Ev tb nv 58 [a0, x33, x68] H60 fun x69 H70 =>
    wP (.fadd 0) [x0] fun x71 =>
    wR (.load 1 false) [x71] H70 fun x72 =>
    wP (.bin .eql) [x72, (.int .i64 3)] fun x73 =>
    asB x73 fun b74 => onB b74 (wP (.fadd 1) [x45] fun x75 =>
    wR (.load 1 false) [x75] H70 fun x76 =>
    wP (.fadd 3) [x0] fun x77 =>
    wR (.load 1 false) [x77] H70 fun x78 =>
    wP (.fadd 4) [x0] fun x79 =>
    wR (.load 1 false) [x79] H70 fun x80 =>
    wP (.fadd 5) [x0] fun x81 =>
    wR (.load 1 false) [x81] H70 fun x82 =>
    wP (.fadd 7) [x0] fun x83 =>
    wR (.load 1 false) [x83] H70 fun x84 =>
    wP (.build [(.int .i64 0), (.int .i64 0), (.int .i64 0), (.int .i64 0), (.int .i64 0), (.int .i64 0)] [(0, 1), (1, 1), (2, 1), (3, 1), (4, 1), (5, 1)]) [x33, x76, x78, x80, x82, x84] fun x85 =>
    wP (.fadd 13) [x57] fun x86 =>
    wE (.store 6) [x86, x85] H70 fun x87 H88 =>
    atK (w29_19 tb nv a0 x0 x33 x2 x57 H88 Q))
    (atK (w29_19 tb nv a0 x0 x33 x2 x57 H70 Q)))
    (atK (w29_19 tb nv a0 x0 x33 x2 x57 H60 Q)))
    (atK (w29_19 tb nv a0 x0 x33 x2 x57 H60 Q))))))) := by kernel_rfl
theorem e29_19 (tb : Nat → Option DFn) (nv : CallF) (t0 t3 t4 t5 t10 : Value) (H : Heap) (Q : Value → Heap → Prop) : w29_19 tb nv t0 t3 t4 t5 t10 H Q = (
    wP (.fadd 1) [t3] fun x89 =>
    wR (.load 1 false) [x89] H fun x90 =>
    wP (.fadd 2) [t3] fun x91 =>
    wR (.load 1 false) [x91] H fun x92 =>
    wP (.build [(.int .i64 0), (.int .i64 0)] [(0, 1), (1, 1)]) [x90, x92] fun x93 =>
    wA (.alloc [(.int .i64 0), (.int .i64 0)]) [] H fun x94 H95 =>
    wE (.store 2) [x94, x93] H95 fun x96 H97 =>
    wP (.fadd 0) [t3] fun x98 =>
    wR (.load 1 false) [x98] H97 fun x99 =>
    wP (.bin .eql) [x99, (.int .i64 1)] fun x100 =>
    asB x100 fun b101 => onB b101 (wP .nilchk [t0] fun x102 =>
    wP (.fadd 3) [x102] fun x103 =>
    wR (.load 1 false) [x103] H97 fun x104 =>
    wR (.load 2 true) [x94] H97 fun x105 =>
    wR (.lookup (.agg [.i, .i]) (.int .i64 0) true) [x104, x105] H97 fun x106 =>
    wP (.extract 0) [x106] fun x107 =>
    wP (.extract 1) [x106] fun x108 =>
    wP (.un .not) [x108] fun x109 =>
    asB x109 fun b110 => onB b110 (wP .nilchk [t0] fun x111 =>
    wP (.fadd 3) [x111] fun x112 =>
    wR (.load 1 false) [x112] H97 fun x113 =>
    wR (.load 2 true) [x94] H97 fun x114 =>
    wE (.mupd (.agg [.i, .i])) [x113, x114, t4] H97 fun x115 H116 =>
    atK (w29_25 tb nv t0 t4 t5 t10 H116 Q))
    (atK (w29_25 tb nv t0 t4 t5 t10 H97 Q)))
    (wP (.fadd 0) [t3] fun x117 =>
    wR (.load 1 false) [x117] H97 fun x118 =>
    wP (.bin .eql) [x118, (.int .i64 2)] fun x119 =>
    asB x119 fun b120 => onB b120 (wP .nilchk [t0] fun x121 =>
    wP (.fadd 3) [x121] fun x122 =>
    wR (.load 1 false) [x122] H97 fun x123 =>
    wR (.load 2 true) [x94] H97 fun x124 =>
    wR (.lookup (.agg [.i, .i]) (.int .i64 0) true) [x123, x124] H97 fun x125 =>
    wP (.extract 0) [x125] fun x126 =>
    wP (.extract 1) [x125] fun x127 =>
    wP (.un .not) [x127] fun x128 =>
    asB x128 fun b129 => onB b129 (wP .nilchk [t0] fun x130 =>
    wP (.fadd 3) [x130] fun x131 =>
    wR (.load 1 false) [x131] H97 fun x132 =>
    wR (.load 2 true) [x94] H97 fun x133 =>
    wE (.mupd (.agg [.i, .i])) [x132, x133, t4] H97 fun x134 H135 =>
    atK (w29_25 tb nv t0 t4 t5 t10 H135 Q))
    (atK (w29_25 tb nv t0 t4 t5 t10 H97 Q)))
    (atK (w29_25 tb nv t0 t4 t5 t10 H97 Q)))) := by kernel_rfl
theorem e29_25 (tb : Nat → Option DFn) (nv : CallF) (t0 t4 t5 t10 : Value) (H : Heap) (Q : Value → Heap → Prop) : w29_25 tb nv t0 t4 t5 t10 H Q = (
    wP .nilchk [t0] fun x136 =>
    wP (.fadd 1) [x136] fun x137 =>
    wR (.load 1 false) [x137] H fun x138 =>
    wR (.load 19 true) [t10] H fun x139 =>
    wA (.bslice [(.int .i64 0), (.int .i64 0), (.int .i64 0), (.int .i64 0), (.int .i64 0), (.int .i64 0), (.int .i64 0), (.int .i64 0), (.int .i64 0), (.string ⟨⟨[]⟩⟩), (.int .i64 0), (.int .i64 0), (.int .i64 0), (.int .i64 0), (.int .i64 0), (.int .i64 0), (.int .i64 0), (.int .i64 0), (.int .i64 0)] [(0, 19)] 19 1) [x139] H fun x140 H141 =>
    wE (.app 19 160) [x138, x140] H141 fun x142 H143 =>
    wP .nilchk [t0] fun x144 =>
    wP (.fadd 1) [x144] fun x145 =>
    wE (.store 1) [x145, x142] H143 fun x146 H147 =>
    wP (.fadd 10) [t10] fun x148 =>
    wR (.load 3 true) [x148] H147 fun x149 =>
    wE (.store 3) [t5, x149] H147 fun x150 H151 =>
    atK (wR (.load 3 true) [t5] H151 fun x152 =>
    Q (.tuple ⟨[t4, x152, (.int .i64 0)]⟩) H151)) := by kernel_rfl

/-- (*tompion/oplog.Log).Read -/
def c30_13 : C := .ret
def c30_12 : C := (.keep [6] c30_13)
def c30_8 : C := (.seq (.region [
      ⟨(some 36), (.read (.load 1 false) []), [.t 7], none⟩,
      ⟨(some 37), (.pure .mov), [.t 9], none⟩,
      ⟨(some 38), (.pure (.bin .sub)), [.t 37, .c (.int .i64 (Int.ofNat 1))], none⟩,
      ⟨(some 39), (.pure (.iaddS 7)), [.t 36, .t 38], none⟩,
      ⟨(some 40), (.pure (.fadd 2)), [.t 39], none⟩,
      ⟨(some 41), (.pure (.fadd 2)), [.t 40], none⟩,
      ⟨(some 42), (.read (.load 1 false) []), [.t 41], none⟩,
      ⟨(some 43), (.read (.load 1 false) []), [.t 7], none⟩,
      ⟨(some 44), (.pure .mov), [.t 9], none⟩,
      ⟨(some 45), (.pure (.bin .sub)), [.t 44, .c (.int .i64 (Int.ofNat 1))], none⟩,
      ⟨(some 46), (.pure (.iaddS 7)), [.t 43, .t 45], none⟩,
      ⟨(some 47), (.pure (.fadd 2)), [.t 46], none⟩,
      ⟨(some 48), (.pure (.fadd 3)), [.t 47], none⟩,
      ⟨(some 49), (.read (.load 1 false) []), [.t 48], none⟩,
      ⟨(some 50), (.pure (.build [(.int .i64 (Int.ofNat 0)), (.int .i64 (Int.ofNat 0)), (.int .i64 (Int.ofNat 0))] [(1, 1), (2, 1)])), [.t 42, .t 49], none⟩,
      ⟨none, (.eff (.store 3)), [.t 6, .t 50], none⟩] false) c30_12)
def c30_11 : C := .ret
def c30_10 : C := (.keep [6] c30_11)
def c30_9 : C := (.cond (.t 34) (.seq (.region [
      ⟨(some 35), (.pure (.build [(.int .i64 (Int.ofNat 0)), (.int .i64 (Int.ofNat 0)), (.int .i64 (Int.ofNat 0))] [(0, 1)])), [.c (.int .i64 (Int.ofNat 6))], none⟩,
      ⟨none, (.eff (.store 3)), [.t 6, .t 35], none⟩] false) c30_10)
    .skip)
def c30_7 : C := (.seq (.seq (.region [
      ⟨(some 24), (.pure .mov), [.t 9], none⟩,
      ⟨(some 25), (.pure (.bin .eql)), [.t 24, .c (.int .i64 (Int.ofNat 0))], none⟩,
      ⟨(some 26), (.pure .mov), [.t 25], none⟩,
      ⟨(some 27), (.read (.load 1 false) []), [.t 7], (some (26, false))⟩,
      ⟨(some 28), (.pure .mov), [.t 9], (some (26, false))⟩,
      ⟨(some 29), (.pure (.bin .sub)), [.t 28, .c (.int .i64 (Int.ofNat 1))], (some (26, false))⟩,
      ⟨(some 30), (.pure (.iaddS 7)), [.t 27, .t 29], (some (26, false))⟩,
      ⟨(some 31), (.pure (.fadd 1)), [.t 30], (some (26, false))⟩,
      ⟨(some 32), (.read (.load 1 false) []), [.t 31], (some (26, false))⟩,
      ⟨(some 33), (.pure (.un .not)), [.t 32], (some (26, false))⟩,
      ⟨(some 34), (.pure .pick), [.t 26, .c (.bool true), .t 33], none⟩] false) c30_9) c30_8)
def c30_6 : C := (.seq (.region [
      ⟨(some 20), (.read (.load 1 false) []), [.t 7], none⟩,
      ⟨(some 21), (.pure .lenS), [.t 20], none⟩,
      ⟨(some 22), (.pure .mov), [.t 8], none⟩,
      ⟨(some 23), (.call 60), [.t 21, .t 22], none⟩,
      ⟨(some 9), (.pure .mov), [.t 23], none⟩] false) c30_7)
def c30_5 : C := (.seq (.region [
      ⟨(some 19), (.pure (.func (.func 59) 0)), [.t 7, .t 5], none⟩,
      ⟨(some 8), (.pure .mov), [.t 19], none⟩] false) c30_6)
def c30_1 : C := (.seq (.region [
      ⟨(some 13), (.pure .mov), [.t 0], none⟩,
      ⟨(some 14), (.pure .nilchk), [.t 13], none⟩,
      ⟨(some 15), (.pure (.fadd 2)), [.t 14], none⟩,
      ⟨(some 16), (.read (.load 1 false) []), [.t 15], none⟩,
      ⟨(some 17), (.pure .mov), [.t 1], none⟩,
      ⟨(some 18), (.read (.lookup (.one .i) (.slice none 0 0) false) []), [.t 16, .t 17], none⟩,
      ⟨(some 7), (.alloc (.alloc [(.slice none 0 0)])), [], none⟩,
      ⟨none, (.eff (.store 1)), [.t 7, .t 18], none⟩] false) c30_5)
def c30_4 : C := .ret
def c30_3 : C := (.keep [6] c30_4)
def c30_2 : C := (.cond (.t 11) (.seq (.region [
      ⟨(some 12), (.pure (.build [(.int .i64 (Int.ofNat 0)), (.int .i64 (Int.ofNat 0)), (.int .i64 (Int.ofNat 0))] [(0, 1)])), [.c (.int .i64 (Int.ofNat 12))], none⟩,
      ⟨none, (.eff (.store 3)), [.t 6, .t 12], none⟩] false) c30_3)
    .skip)
def c30_0 : C := (.seq (.seq (.region [
      ⟨(some 10), (.pure .mov), [.t 0], none⟩,
      ⟨(some 11), (.pure (.nilEq false .ptr)), [.t 10], none⟩] false) c30_2) c30_1)
def k30 : DFn := ⟨51, (.seq (.region [
      ⟨(some 5), (.alloc .box), [.t 2], none⟩,
      ⟨(some 6), (.alloc (.alloc [(.int .i64 (Int.ofNat 0)), (.int .i64 (Int.ofNat 0)), (.int .i64 (Int.ofNat 0))])), [], none⟩] false) c30_0), [.cell 6 3 true]⟩
theorem c30 : (match Tryz.prog.funcs[30]? with | some fn => compileFn Tryz.prog 4 [none, none, none, none, some [6], none, none, none, none, none, none, some [6], none, some [6]] fn | none => none) = some k30 := by kernel_rfl
theorem e30 (tb : Nat → Option DFn) (nv : CallF) (a0 a1 a2 : Value) (H : Heap) (Q : Value → Heap → Prop) : wFn tb nv k30 [a0, a1, a2] H Q = (
    wA .box [a2] H fun x0 H1 =>
    wA (.alloc [(.int .i64 0), (.int .i64 0), (.int .i64 0)]) [] H1 fun x2 H3 =>
    wP (.nilEq false .ptr) [a0] fun x4 =>
    asB x4 fun b5 => onB b5 (wP (.build [(.int .i64 0), (.int .i64 0), (.int .i64 0)] [(0, 1)]) [(.int .i64 12)] fun x6 =>
    wE (.store 3) [x2, x6] H3 fun x7 H8 =>
    atK (wR (.load 3 true) [x2] H8 fun x9 =>
    Q x9 H8))
    (wP .nilchk [a0] fun x10 =>
    wP (.fadd 2) [x10] fun x11 =>
    wR (.load 1 false) [x11] H3 fun x12 =>
    wR (.lookup (.one .i) (.slice none 0 0) false) [x12, a1] H3 fun x13 =>
    wA (.alloc [(.slice none 0 0)]) [] H3 fun x14 H15 =>
    wE (.store 1) [x14, x13] H15 fun x16 H17 =>
    wP (.func (.func 59) 0) [x14, x0] fun x18 =>
    wR (.load 1 false) [x14] H17 fun x19 =>
    wP .lenS [x19] fun x20 =>
    Ev tb nv 60 [x20, x18] H17 fun x21 H22 =>
    wP (.bin .eql) [x21, (.int .i64 0)] fun x23 =>
    asB x23 fun b24 => onB b24 (wP (.build [(.int .i64 0), (.int .i64 0), (.int .i64 0)] [(0, 1)]) [(.int .i64 6)] fun x25 =>
    wE (.store 3) [x2, x25] H22 fun x26 H27 =>
    atK (wR (.load 3 true) [x2] H27 fun x28 =>
    Q x28 H27))
    (wR (.load 1 false) [x14] H22 fun x29 =>
    wP (.bin .sub) [x21, (.int .i64 1)] fun x30 =>
    wP (.iaddS 7) [x29, x30] fun x31 =>
    wP (.fadd 1) [x31] fun x32 =>
    wR (.load 1 false) [x32] H22 fun x33 =>
    wP (.un .not) [x33] fun x34 =>
    asB x34 fun b35 => onB b35 (wP (.build [(.int .i64 0), (.int .i64 0), (.int .i64 0)] [(0, 1)]) [(.int .i64 6)] fun x36 =>
    wE (.store 3) [x2, x36] H22 fun x37 H38 =>
    atK (wR (.load 3 true) [x2] H38 fun x39 =>
    Q x39 H38))
    (wR (.load 1 false) [x14] H22 fun x40 =>
    wP (.bin .sub) [x21, (.int .i64 1)] fun x41 =>
    wP (.iaddS 7) [x40, x41] fun x42 =>
    wP (.fadd 2) [x42] fun x43 =>
    wP (.fadd 2) [x43] fun x44 =>
    wR (.load 1 false) [x44] H22 fun x45 =>
    wR (.load 1 false) [x14] H22 fun x46 =>
    wP (.bin .sub) [x21, (.int .i64 1)] fun x47 =>
    wP (.iaddS 7) [x46, x47] fun x48 =>
    wP (.fadd 2) [x48] fun x49 =>
    wP (.fadd 3) [x49] fun x50 =>
    wR (.load 1 false) [x50] H22 fun x51 =>
    wP (.build [(.int .i64 0), (.int .i64 0), (.int .i64 0)] [(1, 1), (2, 1)]) [x45, x51] fun x52 =>
    wE (.store 3) [x2, x52] H22 fun x53 H54 =>
    atK (wR (.load 3 true) [x2] H54 fun x55 =>
    Q x55 H54))))) := by kernel_rfl

/-- (*tompion/oplog.Log).Len -/
def c31_6 : C := .ret
def c31_5 : C := (.keep [2] c31_6)
def c31_1 : C := (.seq (.region [
      ⟨(some 5), (.pure .mov), [.t 0], none⟩,
      ⟨(some 6), (.pure .nilchk), [.t 5], none⟩,
      ⟨(some 7), (.pure (.fadd 1)), [.t 6], none⟩,
      ⟨(some 8), (.read (.load 1 false) []), [.t 7], none⟩,
      ⟨(some 9), (.pure .lenS), [.t 8], none⟩,
      ⟨(some 2), (.pure .mov), [.t 9], none⟩] false) c31_5)
def c31_4 : C := .ret
def c31_3 : C := (.keep [2] c31_4)
def c31_2 : C := (.cond (.t 4) (.seq (.region [
      ⟨(some 2), (.pure .mov), [.c (.int .i64 (Int.ofNat 0))], none⟩] false) c31_3)
    .skip)
def c31_0 : C := (.seq (.seq (.region [
      ⟨(some 3), (.pure .mov), [.t 0], none⟩,
      ⟨(some 4), (.pure (.nilEq false .ptr)), [.t 3], none⟩] false) c31_2) c31_1)
def k31 : DFn := ⟨10, (.seq (.region [
      ⟨(some 2), (.pure .mov), [.c (.int .i64 (Int.ofNat 0))], none⟩] false) c31_0), [.tmp 2]⟩
theorem c31 : (match Tryz.prog.funcs[31]? with | some fn => compileFn Tryz.prog 4 [none, none, none, none, some [2], none, some [2]] fn | none => none) = some k31 := by kernel_rfl
theorem e31 (tb : Nat → Option DFn) (nv : CallF) (a0 : Value) (H : Heap) (Q : Value → Heap → Prop) : wFn tb nv k31 [a0] H Q = (
    wP (.nilEq false .ptr) [a0] fun x0 =>
    asB x0 fun b1 => onB b1 (atK (Q (.int .i64 0) H))
    (wP .nilchk [a0] fun x2 =>
    wP (.fadd 1) [x2] fun x3 =>
    wR (.load 1 false) [x3] H fun x4 =>
    wP .lenS [x4] fun x5 =>
    atK (Q x5 H))) := by kernel_rfl

/-- (*tompion/oplog.Log).Newest -/
def c32_6 : C := .ret
def c32_5 : C := (.keep [4] c32_6)
def c32_1 : C := (.seq (.region [
      ⟨(some 17), (.pure .mov), [.t 0], none⟩,
      ⟨(some 18), (.pure .nilchk), [.t 17], none⟩,
      ⟨(some 19), (.pure (.fadd 2)), [.t 18], none⟩,
      ⟨(some 20), (.read (.load 1 false) []), [.t 19], none⟩,
      ⟨(some 21), (.pure .mov), [.t 1], none⟩,
      ⟨(some 22), (.read (.lookup (.one .i) (.slice none 0 0) false) []), [.t 20, .t 21], none⟩,
      ⟨(some 23), (.pure .mov), [.t 0], none⟩,
      ⟨(some 24), (.pure .nilchk), [.t 23], none⟩,
      ⟨(some 25), (.pure (.fadd 2)), [.t 24], none⟩,
      ⟨(some 26), (.read (.load 1 false) []), [.t 25], none⟩,
      ⟨(some 27), (.pure .mov), [.t 1], none⟩,
      ⟨(some 28), (.read (.lookup (.one .i) (.slice none 0 0) false) []), [.t 26, .t 27], none⟩,
      ⟨(some 29), (.pure .lenS), [.t 28], none⟩,
      ⟨(some 30), (.pure (.bin .sub)), [.t 29, .c (.int .i64 (Int.ofNat 1))], none⟩,
      ⟨(some 31), (.pure (.iaddS 7)), [.t 22, .t 30], none⟩,
      ⟨(some 32), (.pure (.fadd 0)), [.t 31], none⟩,
      ⟨(some 33), (.read (.load 1 false) []), [.t 32], none⟩,
      ⟨(some 4), (.pure .mov), [.t 33], none⟩] false) c32_5)
def c32_4 : C := .ret
def c32_3 : C := (.keep [4] c32_4)
def c32_2 : C := (.cond (.t 16) (.seq (.region [
      ⟨(some 4), (.pure .mov), [.c (.int .i64 (Int.ofNat 0))], none⟩] false) c32_3)
    .skip)
def c32_0 : C := (.seq (.seq (.region [
      ⟨(some 5), (.pure .mov), [.t 0], none⟩,
      ⟨(some 6), (.pure (.nilEq false .ptr)), [.t 5], none⟩,
      ⟨(some 7), (.pure .mov), [.t 6], none⟩,
      ⟨(some 8), (.pure .mov), [.t 0], (some (7, false))⟩,
      ⟨(some 9), (.pure .nilchk), [.t 8], (some (7, false))⟩,
      ⟨(some 10), (.pure (.fadd 2)), [.t 9], (some (7, false))⟩,
      ⟨(some 11), (.read (.load 1 false) []), [.t 10], (some (7, false))⟩,
      ⟨(some 12), (.pure .mov), [.t 1], (some (7, false))⟩,
      ⟨(some 13), (.read (.lookup (.one .i) (.slice none 0 0) false) []), [.t 11, .t 12], (some (7, false))⟩,
      ⟨(some 14), (.pure .lenS), [.t 13], (some (7, false))⟩,
      ⟨(some 15), (.pure (.bin .eql)), [.t 14, .c (.int .i64 (Int.ofNat 0))], (some (7, false))⟩,
      ⟨(some 16), (.pure .pick), [.t 7, .c (.bool true), .t 15], none⟩] false) c32_2) c32_1)
def k32 : DFn := ⟨34, (.seq (.region [
      ⟨(some 4), (.pure .mov), [.c (.int .i64 (Int.ofNat 0))], none⟩] false) c32_0), [.tmp 4]⟩
theorem c32 : (match Tryz.prog.funcs[32]? with | some fn => compileFn Tryz.prog 4 [none, none, none, none, some [4], none, some [4]] fn | none => none) = some k32 := by kernel_rfl
theorem e32 (tb : Nat → Option DFn) (nv : CallF) (a0 a1 : Value) (H : Heap) (Q : Value → Heap → Prop) : wFn tb nv k32 [a0, a1] H Q = (
    wP (.nilEq false .ptr) [a0] fun x0 =>
    asB x0 fun b1 => onB b1 (atK (Q (.int .i64 0) H))
    (wP .nilchk [a0] fun x2 =>
    wP (.fadd 2) [x2] fun x3 =>
    wR (.load 1 false) [x3] H fun x4 =>
    wR (.lookup (.one .i) (.slice none 0 0) false) [x4, a1] H fun x5 =>
    wP .lenS [x5] fun x6 =>
    wP (.bin .eql) [x6, (.int .i64 0)] fun x7 =>
    asB x7 fun b8 => onB b8 (atK (Q (.int .i64 0) H))
    (wP .nilchk [a0] fun x9 =>
    wP (.fadd 2) [x9] fun x10 =>
    wR (.load 1 false) [x10] H fun x11 =>
    wR (.lookup (.one .i) (.slice none 0 0) false) [x11, a1] H fun x12 =>
    wP .nilchk [a0] fun x13 =>
    wP (.fadd 2) [x13] fun x14 =>
    wR (.load 1 false) [x14] H fun x15 =>
    wR (.lookup (.one .i) (.slice none 0 0) false) [x15, a1] H fun x16 =>
    wP .lenS [x16] fun x17 =>
    wP (.bin .sub) [x17, (.int .i64 1)] fun x18 =>
    wP (.iaddS 7) [x12, x18] fun x19 =>
    wP (.fadd 0) [x19] fun x20 =>
    wR (.load 1 false) [x20] H fun x21 =>
    atK (Q x21 H)))) := by kernel_rfl

/-- (*tompion/oplog.Log).Due -/
def c33_22 : C := .ret
def c33_21 : C := (.keep [6] c33_22)
def c33_20 : C := (.seq (.region [
      ⟨(some 56), (.pure .mov), [.t 6], none⟩,
      ⟨(some 6), (.pure .mov), [.t 56], none⟩] false) c33_21)
def c33_6 : C := (.keep [6] c33_20)
def c33_19 : C := .skip
def c33_9 : C := (.keep [0, 1, 6, 24, 25, 26] c33_19)
def c33_13 : C := (.region [
      ⟨(some 55), (.pure (.bin .add)), [.t 26, .c (.int .i64 (Int.ofNat 1))], none⟩,
      ⟨(some 26), (.pure .mov), [.t 55], none⟩] false)
def c33_18 : C := (.region [
      ⟨(some 44), (.pure .mov), [.t 6], none⟩,
      ⟨(some 45), (.pure (.fadd 0)), [.t 9], none⟩,
      ⟨(some 46), (.read (.load 1 false) []), [.t 45], none⟩,
      ⟨(some 47), (.pure (.fadd 2)), [.t 9], none⟩,
      ⟨(some 48), (.read (.load 1 false) []), [.t 47], none⟩,
      ⟨(some 49), (.pure (.fadd 3)), [.t 9], none⟩,
      ⟨(some 50), (.read (.load 1 false) []), [.t 49], none⟩,
      ⟨(some 51), (.pure .mov), [.t 1], none⟩,
      ⟨(some 52), (.pure (.build [(.int .i64 (Int.ofNat 0)), (.int .i64 (Int.ofNat 0)), (.int .i64 (Int.ofNat 0)), (.int .i64 (Int.ofNat 0)), (.int .i64 (Int.ofNat 0)), (.int .i64 (Int.ofNat 0)), (.int .i64 (Int.ofNat 0)), (.int .i64 (Int.ofNat 0)), (.int .i64 (Int.ofNat 0)), (.string ⟨⟨[]⟩⟩)] [(0, 1), (3, 1), (4, 1), (5, 1), (7, 1)])), [.c (.int .i64 (Int.ofNat 3)), .t 46, .t 48, .t 50, .t 51], none⟩,
      ⟨(some 53), (.alloc (.bslice [(.int .i64 (Int.ofNat 0)), (.int .i64 (Int.ofNat 0)), (.int .i64 (Int.ofNat 0)), (.int .i64 (Int.ofNat 0)), (.int .i64 (Int.ofNat 0)), (.int .i64 (Int.ofNat 0)), (.int .i64 (Int.ofNat 0)), (.int .i64 (Int.ofNat 0)), (.int .i64 (Int.ofNat 0)), (.string ⟨⟨[]⟩⟩)] [(0, 10)] 10 1)), [.t 52], none⟩,
      ⟨(some 54), (.eff (.app 10 88)), [.t 44, .t 53], none⟩,
      ⟨(some 6), (.pure .mov), [.t 54], none⟩] false)
def c33_15 : C := (.seq (.region [
      ⟨(some 35), (.pure .mov), [.t 0], none⟩,
      ⟨(some 36), (.pure .nilchk), [.t 35], none⟩,
      ⟨(some 37), (.pure (.fadd 0)), [.t 36], none⟩,
      ⟨(some 38), (.read (.load 1 false) []), [.t 37], none⟩,
      ⟨(some 39), (.pure (.iaddA 2 1)), [.t 8, .c (.int .i64 (Int.ofNat 1))], none⟩,
      ⟨(some 40), (.read (.load 1 false) []), [.t 39], none⟩,
      ⟨(some 41), (.call 56), [.t 38, .t 40], none⟩,
      ⟨(some 34), (.pure .mov), [.t 41], none⟩,
      ⟨(some 42), (.pure (.extract 0)), [.t 34], none⟩,
      ⟨(some 43), (.pure (.extract 1)), [.t 34], none⟩,
      ⟨(some 9), (.alloc (.alloc [(.int .i64 (Int.ofNat 0)), (.int .i64 (Int.ofNat 0)), (.int .i64 (Int.ofNat 0)), (.int .i64 (Int.ofNat 0)), (.string ⟨⟨[]⟩⟩)])), [], none⟩,
      ⟨none, (.eff (.store 5)), [.t 9, .t 42], none⟩,
      ⟨(some 10), (.pure .mov), [.t 43], none⟩] false) c33_18)
def c33_17 : C := (.exit 0)
def c33_16 : C := (.cond (.t 33) (.keep [6] c33_17)
    .skip)
def c33_14 : C := (.seq (.seq (.region [
      ⟨(some 30), (.pure (.iaddA 2 1)), [.t 8, .c (.int .i64 (Int.ofNat 0))], none⟩,
      ⟨(some 31), (.read (.load 1 false) []), [.t 30], none⟩,
      ⟨(some 32), (.pure .mov), [.t 1], none⟩,
      ⟨(some 33), (.pure (.bin .gtr)), [.t 31, .t 32], none⟩] false) c33_16) c33_15)
def c33_11 : C := (.seq (.block 1 (.seq (.region [
      ⟨(some 28), (.pure (.iaddS 2)), [.t 24, .t 26], none⟩,
      ⟨(some 29), (.read (.load 2 true) []), [.t 28], none⟩,
      ⟨(some 8), (.alloc (.alloc [(.int .i64 (Int.ofNat 0)), (.int .i64 (Int.ofNat 0))])), [], none⟩,
      ⟨none, (.eff (.store 2)), [.t 8, .t 29], none⟩] false) c33_14)) c33_13)
def c33_12 : C := (.exit 0)
def c33_10 : C := (.seq (.cond (.t 27) .skip
    (.keep [6] c33_12)) c33_11)
def c33_8 : C := (.seq (.seq (.region [
      ⟨(some 27), (.pure (.bin .lss)), [.t 26, .t 25], none⟩] false) c33_10) c33_9)
def c33_7 : C := (.block 0 (.loop (some [0, 1, 6, 24, 25, 26]) c33_8))
def c33_5 : C := (.seq (.seq (.region [
      ⟨(some 19), (.pure .mov), [.t 0], none⟩,
      ⟨(some 20), (.pure .nilchk), [.t 19], none⟩,
      ⟨(some 21), (.pure (.fadd 4)), [.t 20], none⟩,
      ⟨(some 22), (.read (.load 1 false) []), [.t 21], none⟩,
      ⟨(some 23), (.pure .mov), [.t 2], none⟩,
      ⟨(some 24), (.call 62), [.t 22, .t 23], none⟩,
      ⟨(some 25), (.pure .lenS), [.t 24], none⟩,
      ⟨(some 26), (.pure .mov), [.c (.int .i64 (Int.ofNat 0))], none⟩] false) c33_7) c33_6)
def c33_1 : C := (.seq (.region [
      ⟨(some 13), (.pure .mov), [.t 0], none⟩,
      ⟨(some 14), (.pure .nilchk), [.t 13], none⟩,
      ⟨(some 15), (.pure (.fadd 4)), [.t 14], none⟩,
      ⟨(some 16), (.read (.load 1 false) []), [.t 15], none⟩,
      ⟨(some 17), (.pure .mov), [.t 1], none⟩,
      ⟨(some 18), (.call 61), [.t 16, .t 17], none⟩] false) c33_5)
def c33_4 : C := .ret
def c33_3 : C := (.keep [6] c33_4)
def c33_2 : C := (.cond (.t 12) (.seq (.region [
      ⟨(some 6), (.pure .mov), [.c (.slice none 0 0)], none⟩] false) c33_3)
    .skip)
def c33_0 : C := (.seq (.seq (.region [
      ⟨(some 11), (.pure .mov), [.t 0], none⟩,
      ⟨(some 12), (.pure (.nilEq false .ptr)), [.t 11], none⟩] false) c33_2) c33_1)
def k33 : DFn := ⟨57, (.seq (.region [
      ⟨(some 6), (.pure .mov), [.c (.slice none 0 0)], none⟩] false) c33_0), [.tmp 6]⟩
theorem c33 : (match Tryz.prog.funcs[33]? with | some fn => compileFn Tryz.prog 4 [none, none, none, none, some [6], none, some [6], none, some [0, 1, 6, 24, 25, 26], none, none, some [6], none, none, none, none, some [6], none, none, some [6]] fn | none => none) = some k33 := by kernel_rfl
def q33_0 (tb : Nat → Option DFn) (nv : CallF) (Q : Value → Heap → Prop) : Kont := kSeq (fun wf H => wC tb nv c33_6 wf H (kFn [.tmp 6] Q)) (kFn [.tmp 6] Q)
def q33_1 (tb : Nat → Option DFn) (nv : CallF) (Q : Value → Heap → Prop) : Kont := kBlk 0 (q33_0 tb nv Q)
def w33_20 (tb : Nat → Option DFn) (nv : CallF) (t6 : Value) (H : Heap) (Q : Value → Heap → Prop) : Prop := wC tb nv c33_20 (mkW [(6, t6)]) H (kFn [.tmp 6] Q)
theorem e33 (tb : Nat → Option DFn) (nv : CallF) (a0 a1 a2 : Value) (H : Heap) (Q : Value → Heap → Prop) : wFn tb nv k33 [a0, a1, a2] H Q = (
    wP (.nilEq false .ptr) [a0] fun x0 =>
    asB x0 fun b1 => onB b1 (atK (Q (.slice none 0 0) H))
    (wP .nilchk [a0] fun x2 =>
    wP (.fadd 4) [x2] fun x3 =>
    wR (.load 1 false) [x3] H fun x4 =>
    Ev tb nv 61 [x4, a1] H fun x5 H6 =>
    wP .nilchk [a0] fun x7 =>
    wP (.fadd 4) [x7] fun x8 =>
    wR (.load 1 false) [x8] H6 fun x9 =>
    Ev tb nv 62 [x9, a2] H6 fun x10 H11 =>
    wP .lenS [x10] fun x12 =>
    wLoop tb nv c33_8 [0, 1, 6, 24, 25, 26] (mkW [(0, a0), (1, a1), (6, (.slice none 0 0)), (24, x10), (25, x12), (26, (.int .i64 0))]) H11 (q33_1 tb nv Q))) := by kernel_rfl
theorem l33_8 (tb : Nat → Option DFn) (nv : CallF) (t0 t1 t6 t24 t25 t26 : Value) (H : Heap) (K : Kont) : wC tb nv c33_8 (mkW [(0, t0), (1, t1), (6, t6), (24, t24), (25, t25), (26, t26)]) H K = (
    wP (.bin .lss) [t26, t25] fun x13 =>
    asB x13 fun b14 => onB b14 (wP (.iaddS 2) [t24, t26] fun x15 =>
    wR (.load 2 true) [x15] H fun x16 =>
    wA (.alloc [(.int .i64 0), (.int .i64 0)]) [] H fun x17 H18 =>
    wE (.store 2) [x17, x16] H18 fun x19 H20 =>
    wP (.iaddA 2 1) [x17, (.int .i64 0)] fun x21 =>
    wR (.load 1 false) [x21] H20 fun x22 =>
    wP (.bin .gtr) [x22, t1] fun x23 =>
    asB x23 fun b24 => onB b24 (atK (K (.exit 0) (mkW [(6, t6)]) H20))
    (wP .nilchk [t0] fun x25 =>
    wP (.fadd 0) [x25] fun x26 =>
    wR (.load 1 false) [x26] H20 fun x27 =>
    wP (.iaddA 2 1) [x17, (.int .i64 1)] fun x28 =>
    wR (.load 1 false) [x28] H20 fun x29 =>
    Ev tb nv 56 [x27, x29] H20 fun x30 H31 =>
    wP (.extract 0) [x30] fun x32 =>
    wP (.extract 1) [x30] fun x33 =>
    wA (.alloc [(.int .i64 0), (.int .i64 0), (.int .i64 0), (.int .i64 0), (.string ⟨⟨[]⟩⟩)]) [] H31 fun x34 H35 =>
    wE (.store 5) [x34, x32] H35 fun x36 H37 =>
    wP (.fadd 0) [x34] fun x38 =>
    wR (.load 1 false) [x38] H37 fun x39 =>
    wP (.fadd 2) [x34] fun x40 =>
    wR (.load 1 false) [x40] H37 fun x41 =>
    wP (.fadd 3) [x34] fun x42 =>
    wR (.load 1 false) [x42] H37 fun x43 =>
    wP (.build [(.int .i64 0), (.int .i64 0), (.int .i64 0), (.int .i64 0), (.int .i64 0), (.int .i64 0), (.int .i64 0), (.int .i64 0), (.int .i64 0), (.string ⟨⟨[]⟩⟩)] [(0, 1), (3, 1), (4, 1), (5, 1), (7, 1)]) [(.int .i64 3), x39, x41, x43, t1] fun x44 =>
    wA (.bslice [(.int .i64 0), (.int .i64 0), (.int .i64 0), (.int .i64 0), (.int .i64 0), (.int .i64 0), (.int .i64 0), (.int .i64 0), (.int .i64 0), (.string ⟨⟨[]⟩⟩)] [(0, 10)] 10 1) [x44] H37 fun x45 H46 =>
    wE (.app 10 88) [t6, x45] H46 fun x47 H48 =>
    wP (.bin .add) [t26, (.int .i64 1)] fun x49 =>
    atK (K .normal (mkW [(0, t0), (1, t1), (6, x47), (24, t24), (25, t25), (26, x49)]) H48)))
    (atK (K (.exit 0) (mkW [(6, t6)]) H))) := by kernel_rfl
theorem x33_8_0 (tb : Nat → Option DFn) (nv : CallF) (t6 : Value) (H : Heap) (Q : Value → Heap → Prop) : (q33_1 tb nv Q) (.exit 0) (mkW [(6, t6)]) H = (
    atK (w33_20 tb nv t6 H Q)) := by kernel_rfl
theorem e33_20 (tb : Nat → Option DFn) (nv : CallF) (t6 : Value) (H : Heap) (Q : Value → Heap → Prop) : w33_20 tb nv t6 H Q = (
    atK (Q t6 H)) := by kernel_rfl

/-- (*tompion/oplog.Log).Op -/
def c35_3 : C := .ret
def c35_2 : C := (.keep [4, 5] c35_3)
def c35_1 : C := (.seq (.region [
      ⟨(some 14), (.pure (.fadd 0)), [.t 6], none⟩,
      ⟨(some 15), (.read (.load 10 true) []), [.t 14], none⟩,
      ⟨(some 16), (.pure .mov), [.t 7], none⟩,
      ⟨none, (.eff (.store 10)), [.t 4, .t 15], none⟩,
      ⟨(some 5), (.pure .mov), [.t 16], none⟩] false) c35_2)
def c35_0 : C := (.seq (.region [
      ⟨(some 9), (.pure .mov), [.t 0], none⟩,
      ⟨(some 10), (.pure .mov), [.t 1], none⟩,
      ⟨(some 11), (.call 63), [.t 9, .t 10], none⟩,
      ⟨(some 8), (.pure .mov), [.t 11], none⟩,
      ⟨(some 12), (.pure (.extract 0)), [.t 8], none⟩,
      ⟨(some 13), (.pure (.extract 1)), [.t 8], none⟩,
      ⟨(some 6), (.alloc (.alloc [(.int .i64 (Int.ofNat 0)), (.int .i64 (Int.ofNat 0)), (.int .i64 (Int.ofNat 0)), (.int .i64 (Int.ofNat 0)), (.int .i64 (Int.ofNat 0)), (.int .i64 (Int.ofNat 0)), (.int .i64 (Int.ofNat 0)), (.int .i64 (Int.ofNat 0)), (.int .i64 (Int.ofNat 0)), (.string ⟨⟨[]⟩⟩), (.int .i64 (Int.ofNat 0)), (.int .i64 (Int.ofNat 0)), (.int .i64 (Int.ofNat 0)), (.int .i64 (Int.ofNat 0)), (.int .i64 (Int.ofNat 0)), (.int .i64 (Int.ofNat 0)), (.int .i64 (Int.ofNat 0)), (.int .i64 (Int.ofNat 0)), (.int .i64 (Int.ofNat 0))])), [], none⟩,
      ⟨none, (.eff (.store 19)), [.t 6, .t 12], none⟩,
      ⟨(some 7), (.pure .mov), [.t 13], none⟩] false) c35_1)
def k35 : DFn := ⟨17, (.seq (.region [
      ⟨(some 4), (.alloc (.alloc [(.int .i64 (Int.ofNat 0)), (.int .i64 (Int.ofNat 0)), (.int .i64 (Int.ofNat 0)), (.int .i64 (Int.ofNat 0)), (.int .i64 (Int.ofNat 0)), (.int .i64 (Int.ofNat 0)), (.int .i64 (Int.ofNat 0)), (.int .i64 (Int.ofNat 0)), (.int .i64 (Int.ofNat 0)), (.string ⟨⟨[]⟩⟩)])), [], none⟩,
      ⟨(some 5), (.pure .mov), [.c (.int .i64 (Int.ofNat 0))], none⟩] false) c35_0), [.cell 4 10 true, .tmp 5]⟩
theorem c35 : (match Tryz.prog.funcs[35]? with | some fn => compileFn Tryz.prog 4 [none, none, none, some [4, 5]] fn | none => none) = some k35 := by kernel_rfl
theorem e35 (tb : Nat → Option DFn) (nv : CallF) (a0 a1 : Value) (H : Heap) (Q : Value → Heap → Prop) : wFn tb nv k35 [a0, a1] H Q = (
    wA (.alloc [(.int .i64 0), (.int .i64 0), (.int .i64 0), (.int .i64 0), (.int .i64 0), (.int .i64 0), (.int .i64 0), (.int .i64 0), (.int .i64 0), (.string ⟨⟨[]⟩⟩)]) [] H fun x0 H1 =>
    Ev tb nv 63 [a0, a1] H1 fun x2 H3 =>
    wP (.extract 0) [x2] fun x4 =>
    wP (.extract 1) [x2] fun x5 =>
    wA (.alloc [(.int .i64 0), (.int .i64 0), (.int .i64 0), (.int .i64 0), (.int .i64 0), (.int .i64 0), (.int .i64 0), (.int .i64 0), (.int .i64 0), (.string ⟨⟨[]⟩⟩), (.int .i64 0), (.int .i64 0), (.int .i64 0), (.int .i64 0), (.int .i64 0), (.int .i64 0), (.int .i64 0), (.int .i64 0), (.int .i64 0)]) [] H3 fun x6 H7 =>
    wE (.store 19) [x6, x4] H7 fun x8 H9 =>
    wP (.fadd 0) [x6] fun x10 =>
    wR (.load 10 true) [x10] H9 fun x11 =>
    wE (.store 10) [x0, x11] H9 fun x12 H13 =>
    atK (wR (.load 10 true) [x0] H13 fun x14 =>
    Q (.tuple ⟨[x14, x5]⟩) H13)) := by kernel_rfl

/-- (*tompion/oplog.Log).Reply -/
def c36_3 : C := .ret
def c36_2 : C := (.keep [4, 5] c36_3)
def c36_1 : C := (.seq (.region [
      ⟨(some 14), (.pure (.fadd 10)), [.t 6], none⟩,
      ⟨(some 15), (.read (.load 3 true) []), [.t 14], none⟩,
      ⟨(some 16), (.pure .mov), [.t 7], none⟩,
      ⟨none, (.eff (.store 3)), [.t 4, .t 15], none⟩,
      ⟨(some 5), (.pure .mov), [.t 16], none⟩] false) c36_2)
def c36_0 : C := (.seq (.region [
      ⟨(some 9), (.pure .mov), [.t 0], none⟩,
      ⟨(some 10), (.pure .mov), [.t 1], none⟩,
      ⟨(some 11), (.call 63), [.t 9, .t 10], none⟩,
      ⟨(some 8), (.pure .mov), [.t 11], none⟩,
      ⟨(some 12), (.pure (.extract 0)), [.t 8], none⟩,
      ⟨(some 13), (.pure (.extract 1)), [.t 8], none⟩,
      ⟨(some 6), (.alloc (.alloc [(.int .i64 (Int.ofNat 0)), (.int .i64 (Int.ofNat 0)), (.int .i64 (Int.ofNat 0)), (.int .i64 (Int.ofNat 0)), (.int .i64 (Int.ofNat 0)), (.int .i64 (Int.ofNat 0)), (.int .i64 (Int.ofNat 0)), (.int .i64 (Int.ofNat 0)), (.int .i64 (Int.ofNat 0)), (.string ⟨⟨[]⟩⟩), (.int .i64 (Int.ofNat 0)), (.int .i64 (Int.ofNat 0)), (.int .i64 (Int.ofNat 0)), (.int .i64 (Int.ofNat 0)), (.int .i64 (Int.ofNat 0)), (.int .i64 (Int.ofNat 0)), (.int .i64 (Int.ofNat 0)), (.int .i64 (Int.ofNat 0)), (.int .i64 (Int.ofNat 0))])), [], none⟩,
      ⟨none, (.eff (.store 19)), [.t 6, .t 12], none⟩,
      ⟨(some 7), (.pure .mov), [.t 13], none⟩] false) c36_1)
def k36 : DFn := ⟨17, (.seq (.region [
      ⟨(some 4), (.alloc (.alloc [(.int .i64 (Int.ofNat 0)), (.int .i64 (Int.ofNat 0)), (.int .i64 (Int.ofNat 0))])), [], none⟩,
      ⟨(some 5), (.pure .mov), [.c (.int .i64 (Int.ofNat 0))], none⟩] false) c36_0), [.cell 4 3 true, .tmp 5]⟩
theorem c36 : (match Tryz.prog.funcs[36]? with | some fn => compileFn Tryz.prog 4 [none, none, none, some [4, 5]] fn | none => none) = some k36 := by kernel_rfl
theorem e36 (tb : Nat → Option DFn) (nv : CallF) (a0 a1 : Value) (H : Heap) (Q : Value → Heap → Prop) : wFn tb nv k36 [a0, a1] H Q = (
    wA (.alloc [(.int .i64 0), (.int .i64 0), (.int .i64 0)]) [] H fun x0 H1 =>
    Ev tb nv 63 [a0, a1] H1 fun x2 H3 =>
    wP (.extract 0) [x2] fun x4 =>
    wP (.extract 1) [x2] fun x5 =>
    wA (.alloc [(.int .i64 0), (.int .i64 0), (.int .i64 0), (.int .i64 0), (.int .i64 0), (.int .i64 0), (.int .i64 0), (.int .i64 0), (.int .i64 0), (.string ⟨⟨[]⟩⟩), (.int .i64 0), (.int .i64 0), (.int .i64 0), (.int .i64 0), (.int .i64 0), (.int .i64 0), (.int .i64 0), (.int .i64 0), (.int .i64 0)]) [] H3 fun x6 H7 =>
    wE (.store 19) [x6, x4] H7 fun x8 H9 =>
    wP (.fadd 10) [x6] fun x10 =>
    wR (.load 3 true) [x10] H9 fun x11 =>
    wE (.store 3) [x0, x11] H9 fun x12 H13 =>
    atK (wR (.load 3 true) [x0] H13 fun x14 =>
    Q (.tuple ⟨[x14, x5]⟩) H13)) := by kernel_rfl

/-- (*tompion/oplog.Log).Request -/
def c37_7 : C := .ret
def c37_6 : C := (.keep [6, 7] c37_7)
def c37_5 : C := (.seq (.region [
      ⟨(some 21), (.pure .mov), [.t 6], none⟩,
      ⟨(some 22), (.pure .mov), [.t 7], none⟩,
      ⟨(some 6), (.pure .mov), [.t 21], none⟩,
      ⟨(some 7), (.pure .mov), [.t 22], none⟩] false) c37_6)
def c37_1 : C := (.seq (.region [
      ⟨(some 11), (.pure .mov), [.t 0], none⟩,
      ⟨(some 12), (.pure .nilchk), [.t 11], none⟩,
      ⟨(some 13), (.pure (.fadd 3)), [.t 12], none⟩,
      ⟨(some 14), (.read (.load 1 false) []), [.t 13], none⟩,
      ⟨(some 15), (.pure .mov), [.t 1], none⟩,
      ⟨(some 16), (.pure .mov), [.t 2], none⟩,
      ⟨(some 17), (.pure (.build [(.int .i64 (Int.ofNat 0)), (.int .i64 (Int.ofNat 0))] [(0, 1), (1, 1)])), [.t 15, .t 16], none⟩,
      ⟨(some 18), (.read (.lookup (.agg [.i, .i]) (.int .i64 (Int.ofNat 0)) true) []), [.t 14, .t 17], none⟩,
      ⟨(some 10), (.pure .mov), [.t 18], none⟩,
      ⟨(some 19), (.pure (.extract 0)), [.t 10], none⟩,
      ⟨(some 20), (.pure (.extract 1)), [.t 10], none⟩,
      ⟨(some 6), (.pure .mov), [.t 19], none⟩,
      ⟨(some 7), (.pure .mov), [.t 20], none⟩] false) c37_5)
def c37_4 : C := .ret
def c37_3 : C := (.keep [6, 7] c37_4)
def c37_2 : C := (.cond (.t 9) (.seq (.region [
      ⟨(some 6), (.pure .mov), [.c (.int .i64 (Int.ofNat 0))], none⟩,
      ⟨(some 7), (.pure .mov), [.c (.bool false)], none⟩] false) c37_3)
    .skip)
def c37_0 : C := (.seq (.seq (.region [
      ⟨(some 8), (.pure .mov), [.t 0], none⟩,
      ⟨(some 9), (.pure (.nilEq false .ptr)), [.t 8], none⟩] false) c37_2) c37_1)
def k37 : DFn := ⟨23, (.seq (.region [
      ⟨(some 6), (.pure .mov), [.c (.int .i64 (Int.ofNat 0))], none⟩,
      ⟨(some 7), (.pure .mov), [.c (.bool false)], none⟩] false) c37_0), [.tmp 6, .tmp 7]⟩
theorem c37 : (match Tryz.prog.funcs[37]? with | some fn => compileFn Tryz.prog 4 [none, none, none, none, some [6, 7], none, none, some [6, 7]] fn | none => none) = some k37 := by kernel_rfl
theorem e37 (tb : Nat → Option DFn) (nv : CallF) (a0 a1 a2 : Value) (H : Heap) (Q : Value → Heap → Prop) : wFn tb nv k37 [a0, a1, a2] H Q = (
    wP (.nilEq false .ptr) [a0] fun x0 =>
    asB x0 fun b1 => onB b1 (atK (Q (.tuple ⟨[(.int .i64 0), (.bool false)]⟩) H))
    (wP .nilchk [a0] fun x2 =>
    wP (.fadd 3) [x2] fun x3 =>
    wR (.load 1 false) [x3] H fun x4 =>
    wP (.build [(.int .i64 0), (.int .i64 0)] [(0, 1), (1, 1)]) [a1, a2] fun x5 =>
    wR (.lookup (.agg [.i, .i]) (.int .i64 0) true) [x4, x5] H fun x6 =>
    wP (.extract 0) [x6] fun x7 =>
    wP (.extract 1) [x6] fun x8 =>
    atK (Q (.tuple ⟨[x7, x8]⟩) H))) := by kernel_rfl

/-- (*tompion/oplog.Log).Fires -/
def c38_30 : C := .ret
def c38_29 : C := (.keep [10, 11] c38_30)
def c38_28 : C := (.seq (.region [
      ⟨(some 63), (.pure .mov), [.t 10], none⟩,
      ⟨(some 64), (.pure .mov), [.t 2], none⟩,
      ⟨(some 65), (.pure .mov), [.t 3], none⟩,
      ⟨(some 66), (.pure .max), [.t 64, .t 65], none⟩,
      ⟨(some 10), (.pure .mov), [.t 63], none⟩,
      ⟨(some 11), (.pure .mov), [.t 66], none⟩] false) c38_29)
def c38_10 : C := (.keep [2, 3, 10] c38_28)
def c38_27 : C := .skip
def c38_13 : C := (.keep [0, 1, 2, 3, 4, 10, 12] c38_27)
def c38_26 : C := (.region [
      ⟨(some 33), (.pure .mov), [.t 12], none⟩,
      ⟨(some 34), (.pure (.bin .add)), [.t 33, .c (.int .i64 (Int.ofNat 1))], none⟩,
      ⟨(some 12), (.pure .mov), [.t 34], none⟩] false)
def c38_17 : C := (.keep [0, 1, 2, 3, 4, 10, 12] c38_26)
def c38_25 : C := .ret
def c38_24 : C := (.keep [10, 11] c38_25)
def c38_23 : C := (.cond (.t 59) (.seq (.region [
      ⟨(some 60), (.pure .mov), [.t 10], none⟩,
      ⟨(some 61), (.pure (.fadd 0)), [.t 13], none⟩,
      ⟨(some 62), (.read (.load 1 false) []), [.t 61], none⟩,
      ⟨(some 10), (.pure .mov), [.t 60], none⟩,
      ⟨(some 11), (.pure .mov), [.t 62], none⟩] false) c38_24)
    .skip)
def c38_22 : C := (.seq (.region [
      ⟨(some 56), (.pure .mov), [.t 10], none⟩,
      ⟨(some 57), (.pure .lenS), [.t 56], none⟩,
      ⟨(some 58), (.pure .mov), [.t 4], none⟩,
      ⟨(some 59), (.pure (.bin .eql)), [.t 57, .t 58], none⟩] false) c38_23)
def c38_19 : C := (.seq (.region [
      ⟨(some 52), (.pure .mov), [.t 10], none⟩,
      ⟨(some 53), (.read (.load 6 true) []), [.t 13], none⟩,
      ⟨(some 54), (.alloc (.bslice [(.int .i64 (Int.ofNat 0)), (.int .i64 (Int.ofNat 0)), (.int .i64 (Int.ofNat 0)), (.int .i64 (Int.ofNat 0)), (.int .i64 (Int.ofNat 0)), (.int .i64 (Int.ofNat 0))] [(0, 6)] 6 1)), [.t 53], none⟩,
      ⟨(some 55), (.eff (.app 6 48)), [.t 52, .t 54], none⟩,
      ⟨(some 10), (.pure .mov), [.t 55], none⟩] false) c38_22)
def c38_21 : C := (.exit 1)
def c38_20 : C := (.cond (.t 51) (.keep [0, 1, 2, 3, 4, 10, 12] c38_21)
    .skip)
def c38_18 : C := (.seq (.seq (.region [
      ⟨(some 43), (.pure (.fadd 0)), [.t 13], none⟩,
      ⟨(some 44), (.read (.load 1 false) []), [.t 43], none⟩,
      ⟨(some 45), (.pure (.bin .eql)), [.t 44, .c (.int .i64 (Int.ofNat 0))], none⟩,
      ⟨(some 46), (.pure .mov), [.t 45], none⟩,
      ⟨(some 47), (.pure (.fadd 1)), [.t 13], (some (46, false))⟩,
      ⟨(some 48), (.read (.load 1 false) []), [.t 47], (some (46, false))⟩,
      ⟨(some 49), (.pure .mov), [.t 1], (some (46, false))⟩,
      ⟨(some 50), (.pure (.bin .neq)), [.t 48, .t 49], (some (46, false))⟩,
      ⟨(some 51), (.pure .pick), [.t 46, .c (.bool true), .t 50], none⟩] false) c38_20) c38_19)
def c38_14 : C := (.seq (.block 1 (.seq (.region [
      ⟨(some 35), (.pure .mov), [.t 0], none⟩,
      ⟨(some 36), (.pure .nilchk), [.t 35], none⟩,
      ⟨(some 37), (.pure (.fadd 1)), [.t 36], none⟩,
      ⟨(some 38), (.read (.load 1 false) []), [.t 37], none⟩,
      ⟨(some 39), (.pure .mov), [.t 12], none⟩,
      ⟨(some 40), (.pure (.iaddS 19)), [.t 38, .t 39], none⟩,
      ⟨(some 41), (.pure (.fadd 13)), [.t 40], none⟩,
      ⟨(some 42), (.read (.load 6 true) []), [.t 41], none⟩,
      ⟨(some 13), (.alloc (.alloc [(.int .i64 (Int.ofNat 0)), (.int .i64 (Int.ofNat 0)), (.int .i64 (Int.ofNat 0)), (.int .i64 (Int.ofNat 0)), (.int .i64 (Int.ofNat 0)), (.int .i64 (Int.ofNat 0))])), [], none⟩,
      ⟨none, (.eff (.store 6)), [.t 13, .t 42], none⟩] false) c38_18)) c38_17)
def c38_16 : C := (.exit 0)
def c38_15 : C := (.cond (.t 32) .skip
    (.keep [2, 3, 10] c38_16))
def c38_12 : C := (.seq (.seq (.seq (.region [
      ⟨(some 30), (.pure .mov), [.t 12], none⟩,
      ⟨(some 31), (.pure .mov), [.t 3], none⟩,
      ⟨(some 32), (.pure (.bin .lss)), [.t 30, .t 31], none⟩] false) c38_15) c38_14) c38_13)
def c38_11 : C := (.block 0 (.loop (some [0, 1, 2, 3, 4, 10, 12]) c38_12))
def c38_6 : C := (.seq (.seq (.region [
      ⟨(some 28), (.pure .mov), [.t 2], none⟩,
      ⟨(some 29), (.pure .max), [.t 28, .c (.int .i64 (Int.ofNat 0))], none⟩,
      ⟨(some 12), (.pure .mov), [.t 29], none⟩] false) c38_11) c38_10)
def c38_9 : C := .ret
def c38_8 : C := (.keep [10, 11] c38_9)
def c38_7 : C := (.cond (.t 24) (.seq (.region [
      ⟨(some 25), (.pure .mov), [.t 2], none⟩,
      ⟨(some 26), (.pure .mov), [.t 3], none⟩,
      ⟨(some 27), (.pure .max), [.t 25, .t 26], none⟩,
      ⟨(some 10), (.pure .mov), [.c (.slice none 0 0)], none⟩,
      ⟨(some 11), (.pure .mov), [.t 27], none⟩] false) c38_8)
    .skip)
def c38_5 : C := (.seq (.seq (.region [
      ⟨(some 23), (.pure .mov), [.t 4], none⟩,
      ⟨(some 24), (.pure (.bin .lss)), [.t 23, .c (.int .i64 (Int.ofNat 1))], none⟩] false) c38_7) c38_6)
def c38_1 : C := (.seq (.region [
      ⟨(some 16), (.pure .mov), [.t 3], none⟩,
      ⟨(some 17), (.pure .mov), [.t 0], none⟩,
      ⟨(some 18), (.pure .nilchk), [.t 17], none⟩,
      ⟨(some 19), (.pure (.fadd 1)), [.t 18], none⟩,
      ⟨(some 20), (.read (.load 1 false) []), [.t 19], none⟩,
      ⟨(some 21), (.pure .lenS), [.t 20], none⟩,
      ⟨(some 22), (.pure .min), [.t 16, .t 21], none⟩,
      ⟨(some 3), (.pure .mov), [.t 22], none⟩] false) c38_5)
def c38_4 : C := .ret
def c38_3 : C := (.keep [10, 11] c38_4)
def c38_2 : C := (.cond (.t 15) (.seq (.region [
      ⟨(some 10), (.pure .mov), [.c (.slice none 0 0)], none⟩,
      ⟨(some 11), (.pure .mov), [.c (.int .i64 (Int.ofNat 0))], none⟩] false) c38_3)
    .skip)
def c38_0 : C := (.seq (.seq (.region [
      ⟨(some 14), (.pure .mov), [.t 0], none⟩,
      ⟨(some 15), (.pure (.nilEq false .ptr)), [.t 14], none⟩] false) c38_2) c38_1)
def k38 : DFn := ⟨67, (.seq (.region [
      ⟨(some 10), (.pure .mov), [.c (.slice none 0 0)], none⟩,
      ⟨(some 11), (.pure .mov), [.c (.int .i64 (Int.ofNat 0))], none⟩] false) c38_0), [.tmp 10, .tmp 11]⟩
theorem c38 : (match Tryz.prog.funcs[38]? with | some fn => compileFn Tryz.prog 4 [none, none, none, none, some [10, 11], none, none, none, none, some [10, 11], some [2, 3, 10], none, some [0, 1, 2, 3, 4, 10, 12], none, none, some [2, 3, 10], some [0, 1, 2, 3, 4, 10, 12], none, none, none, some [0, 1, 2, 3, 4, 10, 12], none, none, none, some [10, 11], none, some [10, 11]] fn | none => none) = some k38 := by kernel_rfl
def q38_0 (tb : Nat → Option DFn) (nv : CallF) (Q : Value → Heap → Prop) : Kont := kSeq (fun wf H => wC tb nv c38_10 wf H (kFn [.tmp 10, .tmp 11] Q)) (kFn [.tmp 10, .tmp 11] Q)
def q38_1 (tb : Nat → Option DFn) (nv : CallF) (Q : Value → Heap → Prop) : Kont := kBlk 0 (q38_0 tb nv Q)
def q38_2 (tb : Nat → Option DFn) (nv : CallF) (K : Kont) : Kont := kSeq (fun wf H => wC tb nv c38_13 wf H K) K
def w38_26 (tb : Nat → Option DFn) (nv : CallF) (t0 t1 t2 t3 t4 t10 t12 : Value) (H : Heap) (K : Kont) : Prop := wC tb nv c38_26 (mkW [(0, t0), (1, t1), (2, t2), (3, t3), (4, t4), (10, t10), (12, t12)]) H (q38_2 tb nv K)
def w38_28 (tb : Nat → Option DFn) (nv : CallF) (t2 t3 t10 : Value) (H : Heap) (Q : Value → Heap → Prop) : Prop := wC tb nv c38_28 (mkW [(2, t2), (3, t3), (10, t10)]) H (kFn [.tmp 10, .tmp 11] Q)
theorem e38 (tb : Nat → Option DFn) (nv : CallF) (a0 a1 a2 a3 a4 : Value) (H : Heap) (Q : Value → Heap → Prop) : wFn tb nv k38 [a0, a1, a2, a3, a4] H Q = (
    wP (.nilEq false .ptr) [a0] fun x0 =>
    asB x0 fun b1 => onB b1 (atK (Q (.tuple ⟨[(.slice none 0 0), (.int .i64 0)]⟩) H))
    (wP .nilchk [a0] fun x2 =>
    wP (.fadd 1) [x2] fun x3 =>
    wR (.load 1 false) [x3] H fun x4 =>
    wP .lenS [x4] fun x5 =>
    wP .min [a3, x5] fun x6 =>
    wP (.bin .lss) [a4, (.int .i64 1)] fun x7 =>
    asB x7 fun b8 => onB b8 (wP .max [a2, x6] fun x9 =>
    atK (Q (.tuple ⟨[(.slice none 0 0), x9]⟩) H))
    (wP .max [a2, (.int .i64 0)] fun x10 =>
    wLoop tb nv c38_12 [0, 1, 2, 3, 4, 10, 12] (mkW [(0, a0), (1, a1), (2, a2), (3, x6), (4, a4), (10, (.slice none 0 0)), (12, x10)]) H (q38_1 tb nv Q)))) := by kernel_rfl
theorem l38_12 (tb : Nat → Option DFn) (nv : CallF) (t0 t1 t2 t3 t4 t10 t12 : Value) (H : Heap) (K : Kont) : wC tb nv c38_12 (mkW [(0, t0), (1, t1), (2, t2), (3, t3), (4, t4), (10, t10), (12, t12)]) H K = (
    wP (.bin .lss) [t12, t3] fun x11 =>
    asB x11 fun b12 => onB b12 (wP .nilchk [t0] fun x13 =>
    wP (.fadd 1) [x13] fun x14 =>
    wR (.load 1 false) [x14] H fun x15 =>
    wP (.iaddS 19) [x15, t12] fun x16 =>
    wP (.fadd 13) [x16] fun x17 =>
    wR (.load 6 true) [x17] H fun x18 =>
    wA (.alloc [(.int .i64 0), (.int .i64 0), (.int .i64 0), (.int .i64 0), (.int .i64 0), (.int .i64 0)]) [] H fun x19 H20 =>
    wE (.store 6) [x19, x18] H20 fun x21 H22 =>
    wP (.fadd 0) [x19] fun x23 =>
    wR (.load 1 false) [x23] H22 fun x24 =>
    wP (.bin .eql) [x24, (.int .i64 0)] fun x25 =>
    asB x25 fun b26 => onB b26 (atK (atK (w38_26 tb nv t0 t1 t2 t3 t4 t10 t12 H22 K)))
    (wP (.fadd 1) [x19] fun x27 =>
    wR (.load 1 false) [x27] H22 fun x28 =>
    wP (.bin .neq) [x28, t1] fun x29 =>
    asB x29 fun b30 => onB b30 (atK (atK (w38_26 tb nv t0 t1 t2 t3 t4 t10 t12 H22 K)))
    (wR (.load 6 true) [x19] H22 fun x31 =>
    wA (.bslice [(.int .i64 0), (.int .i64 0), (.int .i64 0), (.int .i64 0), (.int .i64 0), (.int .i64 0)] [(0, 6)] 6 1) [x31] H22 fun x32 H33 =>
    wE (.app 6 48) [t10, x32] H33 fun x34 H35 =>
    wP .lenS [x34] fun x36 =>
    wP (.bin .eql) [x36, t4] fun x37 =>
    asB x37 fun b38 => onB b38 (wP (.fadd 0) [x19] fun x39 =>
    wR (.load 1 false) [x39] H35 fun x40 =>
    atK (K .ret (mkW [(10, x34), (11, x40)]) H35))
    (atK (w38_26 tb nv t0 t1 t2 t3 t4 x34 t12 H35 K)))))
    (atK (K (.exit 0) (mkW [(2, t2), (3, t3), (10, t10)]) H))) := by kernel_rfl
theorem x38_12_0 (tb : Nat → Option DFn) (nv : CallF) (t10 t11 : Value) (H : Heap) (Q : Value → Heap → Prop) : (q38_1 tb nv Q) .ret (mkW [(10, t10), (11, t11)]) H = (
    Q (.tuple ⟨[t10, t11]⟩) H) := by kernel_rfl
theorem x38_12_1 (tb : Nat → Option DFn) (nv : CallF) (t2 t3 t10 : Value) (H : Heap) (Q : Value → Heap → Prop) : (q38_1 tb nv Q) (.exit 0) (mkW [(2, t2), (3, t3), (10, t10)]) H = (
    atK (w38_28 tb nv t2 t3 t10 H Q)) := by kernel_rfl
theorem e38_26 (tb : Nat → Option DFn) (nv : CallF) (t0 t1 t2 t3 t4 t10 t12 : Value) (H : Heap) (K : Kont) : w38_26 tb nv t0 t1 t2 t3 t4 t10 t12 H K = (
    wP (.bin .add) [t12, (.int .i64 1)] fun x41 =>
    atK (K .normal (mkW [(0, t0), (1, t1), (2, t2), (3, t3), (4, t4), (10, t10), (12, x41)]) H)) := by kernel_rfl
theorem e38_28 (tb : Nat → Option DFn) (nv : CallF) (t2 t3 t10 : Value) (H : Heap) (Q : Value → Heap → Prop) : w38_28 tb nv t2 t3 t10 H Q = (
    wP .max [t2, t3] fun x42 =>
    atK (Q (.tuple ⟨[t10, x42]⟩) H)) := by kernel_rfl

end Go.Proofs.YtolmfeknhoiepaaGreatDoor.D
