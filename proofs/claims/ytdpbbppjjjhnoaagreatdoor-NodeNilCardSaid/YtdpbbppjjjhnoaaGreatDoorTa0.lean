/- The compiled functions of the seat, as the machine "D" runs them, and what each comes to (written by a program). No statement of the seat is proved in this text. -/
import Derived.Test.YtdpbbppjjjhnoaaGreatDoorDz
import Derived.Test.YtdpbbppjjjhnoaaGreatDoorProg
set_option maxRecDepth 100000
set_option linter.unusedVariables false
namespace Go.Proofs.YtdpbbppjjjhnoaaGreatDoor.D
open Go
/-- tompion/tompionlaw16.NodeNil -/
def c3_14 : C := .ret
def c3_13 : C := (.keep [4] c3_14)
def c3_9 : C := (.seq (.region [
      ⟨(some 76), (.pure .mov), [.t 5], none⟩,
      ⟨(some 77), (.read (.load 28 true) []), [.t 2], none⟩,
      ⟨(some 78), (.pure .mov), [.t 1], none⟩,
      ⟨(some 79), (.call 9), [.t 76, .t 77, .t 78], none⟩,
      ⟨(some 80), (.pure .lenS), [.t 79], none⟩,
      ⟨(some 81), (.pure (.bin .eql)), [.t 80, .c (.int .i64 (Int.ofNat 0))], none⟩,
      ⟨(some 82), (.pure .mov), [.t 81], none⟩,
      ⟨(some 83), (.pure .mov), [.t 5], (some (82, true))⟩,
      ⟨(some 84), (.pure .mov), [.t 1], (some (82, true))⟩,
      ⟨(some 85), (.call 8), [.t 83, .t 84], (some (82, true))⟩,
      ⟨(some 86), (.pure .lenS), [.t 85], (some (82, true))⟩,
      ⟨(some 87), (.pure (.bin .eql)), [.t 86, .c (.int .i64 (Int.ofNat 0))], (some (82, true))⟩,
      ⟨(some 88), (.pure .pick), [.t 82, .t 87, .c (.bool false)], none⟩,
      ⟨(some 89), (.pure .mov), [.t 88], none⟩,
      ⟨(some 90), (.pure .mov), [.t 5], (some (89, true))⟩,
      ⟨(some 91), (.call 10), [.t 90], (some (89, true))⟩,
      ⟨(some 92), (.pure (.un .not)), [.t 91], (some (89, true))⟩,
      ⟨(some 93), (.pure .pick), [.t 89, .t 92, .c (.bool false)], none⟩,
      ⟨(some 94), (.pure .mov), [.t 93], none⟩,
      ⟨(some 95), (.pure .mov), [.t 5], (some (94, true))⟩,
      ⟨(some 96), (.call 11), [.t 95], (some (94, true))⟩,
      ⟨(some 97), (.pure (.build [(.int .i64 (Int.ofNat 0)), (.int .i64 (Int.ofNat 0))] [])), [], (some (94, true))⟩,
      ⟨(some 98), (.pure (.aggEq false [.i, .i])), [.t 96, .t 97], (some (94, true))⟩,
      ⟨(some 99), (.pure .pick), [.t 94, .t 98, .c (.bool false)], none⟩,
      ⟨(some 100), (.pure .mov), [.t 99], none⟩,
      ⟨(some 101), (.pure .mov), [.t 5], (some (100, true))⟩,
      ⟨(some 102), (.call 12), [.t 101], (some (100, true))⟩,
      ⟨(some 103), (.pure (.field 0 1 false)), [.t 102], (some (100, true))⟩,
      ⟨(some 104), (.pure (.bin .eql)), [.t 103, .c (.int .i64 (Int.ofNat 0))], (some (100, true))⟩,
      ⟨(some 105), (.pure .pick), [.t 100, .t 104, .c (.bool false)], none⟩,
      ⟨(some 106), (.pure .mov), [.t 105], none⟩,
      ⟨(some 107), (.pure .mov), [.t 5], (some (106, true))⟩,
      ⟨(some 108), (.call 13), [.t 107], (some (106, true))⟩,
      ⟨(some 109), (.pure (.un .not)), [.t 108], (some (106, true))⟩,
      ⟨(some 110), (.pure .pick), [.t 106, .t 109, .c (.bool false)], none⟩,
      ⟨(some 111), (.pure .mov), [.t 110], none⟩,
      ⟨(some 112), (.pure .mov), [.t 5], (some (111, true))⟩,
      ⟨(some 113), (.call 14), [.t 112], (some (111, true))⟩,
      ⟨(some 114), (.pure (.bin .eql)), [.t 113, .c (.int .i64 (Int.ofNat 0))], (some (111, true))⟩,
      ⟨(some 115), (.pure .pick), [.t 111, .t 114, .c (.bool false)], none⟩,
      ⟨(some 116), (.pure .mov), [.t 115], none⟩,
      ⟨(some 117), (.pure .mov), [.t 5], (some (116, true))⟩,
      ⟨(some 118), (.call 15), [.t 117], (some (116, true))⟩,
      ⟨(some 119), (.pure .lenS), [.t 118], (some (116, true))⟩,
      ⟨(some 120), (.pure (.bin .eql)), [.t 119, .c (.int .i64 (Int.ofNat 0))], (some (116, true))⟩,
      ⟨(some 121), (.pure .pick), [.t 116, .t 120, .c (.bool false)], none⟩,
      ⟨(some 122), (.pure .mov), [.t 121], none⟩,
      ⟨(some 123), (.pure .mov), [.t 5], (some (122, true))⟩,
      ⟨(some 124), (.call 16), [.t 123], (some (122, true))⟩,
      ⟨(some 125), (.pure (.bin .eql)), [.t 124, .c (.int .i64 (Int.ofNat 0))], (some (122, true))⟩,
      ⟨(some 126), (.pure .pick), [.t 122, .t 125, .c (.bool false)], none⟩,
      ⟨(some 4), (.pure .mov), [.t 126], none⟩] false) c3_13)
def c3_12 : C := .ret
def c3_11 : C := (.keep [4] c3_12)
def c3_10 : C := (.cond (.t 75) (.seq (.region [
      ⟨(some 4), (.pure .mov), [.c (.bool false)], none⟩] false) c3_11)
    .skip)
def c3_8 : C := (.seq (.seq (.region [
      ⟨(some 47), (.pure .mov), [.t 8], none⟩,
      ⟨(some 48), (.pure .lenS), [.t 47], none⟩,
      ⟨(some 49), (.pure (.bin .neq)), [.t 48, .c (.int .i64 (Int.ofNat 1))], none⟩,
      ⟨(some 50), (.pure .mov), [.t 49], none⟩,
      ⟨(some 51), (.pure .mov), [.t 8], (some (50, false))⟩,
      ⟨(some 52), (.pure (.iaddS 28)), [.t 51, .c (.int .i64 (Int.ofNat 0))], (some (50, false))⟩,
      ⟨(some 53), (.pure (.fadd 0)), [.t 52], (some (50, false))⟩,
      ⟨(some 54), (.read (.load 1 false) []), [.t 53], (some (50, false))⟩,
      ⟨(some 55), (.pure (.bin .neq)), [.t 54, .c (.int .i64 (Int.ofNat 1))], (some (50, false))⟩,
      ⟨(some 56), (.pure .pick), [.t 50, .c (.bool true), .t 55], none⟩,
      ⟨(some 57), (.pure .mov), [.t 56], none⟩,
      ⟨(some 58), (.pure .mov), [.t 8], (some (57, false))⟩,
      ⟨(some 59), (.pure (.iaddS 28)), [.t 58, .c (.int .i64 (Int.ofNat 0))], (some (57, false))⟩,
      ⟨(some 60), (.pure (.fadd 10)), [.t 59], (some (57, false))⟩,
      ⟨(some 61), (.read (.load 1 false) []), [.t 60], (some (57, false))⟩,
      ⟨(some 62), (.pure .pick), [.t 57, .c (.bool true), .t 61], none⟩,
      ⟨(some 63), (.pure .mov), [.t 62], none⟩,
      ⟨(some 64), (.pure (.fadd 0)), [.t 2], (some (63, false))⟩,
      ⟨(some 65), (.read (.load 1 false) []), [.t 64], (some (63, false))⟩,
      ⟨(some 66), (.pure (.bin .neq)), [.t 65, .c (.int .i64 (Int.ofNat 2))], (some (63, false))⟩,
      ⟨(some 67), (.pure .mov), [.t 66], (some (63, false))⟩,
      ⟨(some 68), (.pure .mov), [.t 6], (some (67, true))⟩,
      ⟨(some 69), (.read (.load 28 true) []), [.t 2], (some (67, true))⟩,
      ⟨(some 70), (.pure .mov), [.t 1], (some (67, true))⟩,
      ⟨(some 71), (.call 9), [.t 68, .t 69, .t 70], (some (67, true))⟩,
      ⟨(some 72), (.pure .lenS), [.t 71], (some (67, true))⟩,
      ⟨(some 73), (.pure (.bin .gtr)), [.t 72, .c (.int .i64 (Int.ofNat 0))], (some (67, true))⟩,
      ⟨(some 74), (.pure .pick), [.t 67, .t 73, .c (.bool false)], (some (63, false))⟩,
      ⟨(some 75), (.pure .pick), [.t 63, .c (.bool true), .t 74], none⟩] false) c3_10) c3_9)
def c3_7 : C := (.seq (.region [
      ⟨(some 44), (.pure .mov), [.t 6], none⟩,
      ⟨(some 45), (.pure .mov), [.t 1], none⟩,
      ⟨(some 46), (.call 8), [.t 44, .t 45], none⟩,
      ⟨(some 8), (.pure .mov), [.t 46], none⟩] false) c3_8)
def c3_3 : C := (.seq (.region [
      ⟨(some 40), (.pure .mov), [.t 5], none⟩,
      ⟨(some 41), (.pure (.fadd 24)), [.t 2], none⟩,
      ⟨(some 42), (.read (.load 2 true) []), [.t 41], none⟩,
      ⟨(some 43), (.call 7), [.t 40, .t 42], none⟩] false) c3_7)
def c3_6 : C := .ret
def c3_5 : C := (.keep [4] c3_6)
def c3_4 : C := (.cond (.t 34) (.seq (.region [
      ⟨(some 35), (.call 6), [], none⟩,
      ⟨(some 36), (.pure .mov), [.t 35], none⟩,
      ⟨(some 37), (.pure .mov), [.t 7], (some (36, true))⟩,
      ⟨(some 38), (.pure (.bin .eql)), [.t 37, .c (.int .i64 (Int.ofNat 0))], (some (36, true))⟩,
      ⟨(some 39), (.pure .pick), [.t 36, .t 38, .c (.bool false)], none⟩,
      ⟨(some 4), (.pure .mov), [.t 39], none⟩] false) c3_5)
    .skip)
def c3_2 : C := (.seq (.seq (.region [
      ⟨(some 15), (.call 6), [], none⟩,
      ⟨(some 16), (.pure (.un .not)), [.t 15], none⟩,
      ⟨(some 17), (.pure .mov), [.t 16], none⟩,
      ⟨(some 18), (.pure .mov), [.t 7], (some (17, false))⟩,
      ⟨(some 19), (.pure (.bin .neq)), [.t 18, .c (.int .i64 (Int.ofNat 0))], (some (17, false))⟩,
      ⟨(some 20), (.pure .pick), [.t 17, .c (.bool true), .t 19], none⟩,
      ⟨(some 21), (.pure .mov), [.t 20], none⟩,
      ⟨(some 22), (.pure (.fadd 24)), [.t 2], (some (21, false))⟩,
      ⟨(some 23), (.pure (.fadd 1)), [.t 22], (some (21, false))⟩,
      ⟨(some 24), (.read (.load 1 false) []), [.t 23], (some (21, false))⟩,
      ⟨(some 25), (.pure .lenS), [.t 24], (some (21, false))⟩,
      ⟨(some 26), (.pure (.bin .gtr)), [.t 25, .c (.int .i64 (Int.ofNat 40))], (some (21, false))⟩,
      ⟨(some 27), (.pure .pick), [.t 21, .c (.bool true), .t 26], none⟩,
      ⟨(some 28), (.pure .mov), [.t 27], none⟩,
      ⟨(some 29), (.pure (.fadd 11)), [.t 2], (some (28, false))⟩,
      ⟨(some 30), (.pure (.fadd 9)), [.t 29], (some (28, false))⟩,
      ⟨(some 31), (.read (.load 1 false) []), [.t 30], (some (28, false))⟩,
      ⟨(some 32), (.pure .lenStr), [.t 31], (some (28, false))⟩,
      ⟨(some 33), (.pure (.bin .gtr)), [.t 32, .c (.int .i64 (Int.ofNat 300))], (some (28, false))⟩,
      ⟨(some 34), (.pure .pick), [.t 28, .c (.bool true), .t 33], none⟩] false) c3_4) c3_3)
def c3_1 : C := (.seq (.region [
      ⟨(some 10), (.call 5), [.c (.int .i64 (Int.ofNat 3))], none⟩,
      ⟨(some 11), (.pure (.build [(.int .i64 (Int.ofNat 0)), (.int .i64 (Int.ofNat 0))] [(0, 1), (1, 1)])), [.c (.int .i64 (Int.ofNat 2)), .c (.int .i64 (Int.ofNat 4))], none⟩,
      ⟨(some 12), (.call 4), [.t 10, .t 11], none⟩,
      ⟨(some 9), (.pure .mov), [.t 12], none⟩,
      ⟨(some 13), (.pure (.extract 0)), [.t 9], none⟩,
      ⟨(some 14), (.pure (.extract 1)), [.t 9], none⟩,
      ⟨(some 6), (.pure .mov), [.t 13], none⟩,
      ⟨(some 7), (.pure .mov), [.t 14], none⟩] false) c3_2)
def c3_0 : C := (.seq (.region [
      ⟨(some 5), (.pure .mov), [.c (.pointer none)], none⟩] false) c3_1)
def k3 : DFn := ⟨127, (.seq (.region [
      ⟨(some 2), (.alloc .box), [.t 0], none⟩,
      ⟨(some 4), (.pure .mov), [.c (.bool false)], none⟩] false) c3_0), [.tmp 4]⟩
theorem c3 : (match Tryz.prog.funcs[3]? with | some fn => compileFn Tryz.prog 4 [none, none, none, none, none, none, some [4], none, none, none, none, none, some [4], none, some [4]] fn | none => none) = some k3 := by kernel_rfl
theorem e3 (tb : Nat → Option DFn) (nv : CallF) (a0 a1 : Value) (H : Heap) (Q : Value → Heap → Prop) : wFn tb nv k3 [a0, a1] H Q = (
    wA .box [a0] H fun x0 H1 =>
    Ev tb nv 5 [(.int .i64 3)] H1 fun x2 H3 =>
    wP (.build [(.int .i64 0), (.int .i64 0)] [(0, 1), (1, 1)]) [(.int .i64 2), (.int .i64 4)] fun x4 =>
    Ev tb nv 4 [x2, x4] H3 fun x5 H6 =>
    wP (.extract 0) [x5] fun x7 =>
    wP (.extract 1) [x5] fun x8 =>
    Ev tb nv 6 [] H6 fun x9 H10 =>
    wP (.un .not) [x9] fun x11 =>
    asB x11 fun b12 => onB b12 (Ev tb nv 6 [] H10 fun x13 H14 =>
    asB x13 fun b15 => onB b15 (wP (.bin .eql) [x8, (.int .i64 0)] fun x16 =>
    atK (Q x16 H14))
    (atK (Q (.bool false) H14)))
    (wP (.bin .neq) [x8, (.int .i64 0)] fun x17 =>
    asB x17 fun b18 => onB b18 (Ev tb nv 6 [] H10 fun x19 H20 =>
    asB x19 fun b21 => onB b21 (wP (.bin .eql) [x8, (.int .i64 0)] fun x22 =>
    atK (Q x22 H20))
    (atK (Q (.bool false) H20)))
    (wP (.fadd 24) [x0] fun x23 =>
    wP (.fadd 1) [x23] fun x24 =>
    wR (.load 1 false) [x24] H10 fun x25 =>
    wP .lenS [x25] fun x26 =>
    wP (.bin .gtr) [x26, (.int .i64 40)] fun x27 =>
    asB x27 fun b28 => onB b28 (Ev tb nv 6 [] H10 fun x29 H30 =>
    asB x29 fun b31 => onB b31 (wP (.bin .eql) [x8, (.int .i64 0)] fun x32 =>
    atK (Q x32 H30))
    (atK (Q (.bool false) H30)))
    (wP (.fadd 11) [x0] fun x33 =>
    wP (.fadd 9) [x33] fun x34 =>
    wR (.load 1 false) [x34] H10 fun x35 =>
    wP .lenStr [x35] fun x36 =>
    wP (.bin .gtr) [x36, (.int .i64 300)] fun x37 =>
    asB x37 fun b38 => onB b38 (Ev tb nv 6 [] H10 fun x39 H40 =>
    asB x39 fun b41 => onB b41 (wP (.bin .eql) [x8, (.int .i64 0)] fun x42 =>
    atK (Q x42 H40))
    (atK (Q (.bool false) H40)))
    (wP (.fadd 24) [x0] fun x43 =>
    wR (.load 2 true) [x43] H10 fun x44 =>
    Ev tb nv 7 [(.pointer none), x44] H10 fun x45 H46 =>
    Ev tb nv 8 [x7, a1] H46 fun x47 H48 =>
    wP .lenS [x47] fun x49 =>
    wP (.bin .neq) [x49, (.int .i64 1)] fun x50 =>
    asB x50 fun b51 => onB b51 (atK (Q (.bool false) H48))
    (wP (.iaddS 28) [x47, (.int .i64 0)] fun x52 =>
    wP (.fadd 0) [x52] fun x53 =>
    wR (.load 1 false) [x53] H48 fun x54 =>
    wP (.bin .neq) [x54, (.int .i64 1)] fun x55 =>
    asB x55 fun b56 => onB b56 (atK (Q (.bool false) H48))
    (wP (.iaddS 28) [x47, (.int .i64 0)] fun x57 =>
    wP (.fadd 10) [x57] fun x58 =>
    wR (.load 1 false) [x58] H48 fun x59 =>
    asB x59 fun b60 => onB b60 (atK (Q (.bool false) H48))
    (wP (.fadd 0) [x0] fun x61 =>
    wR (.load 1 false) [x61] H48 fun x62 =>
    wP (.bin .neq) [x62, (.int .i64 2)] fun x63 =>
    asB x63 fun b64 => onB b64 (wR (.load 28 true) [x0] H48 fun x65 =>
    Ev tb nv 9 [x7, x65, a1] H48 fun x66 H67 =>
    wP .lenS [x66] fun x68 =>
    wP (.bin .gtr) [x68, (.int .i64 0)] fun x69 =>
    asB x69 fun b70 => onB b70 (atK (Q (.bool false) H67))
    (wR (.load 28 true) [x0] H67 fun x71 =>
    Ev tb nv 9 [(.pointer none), x71, a1] H67 fun x72 H73 =>
    wP .lenS [x72] fun x74 =>
    wP (.bin .eql) [x74, (.int .i64 0)] fun x75 =>
    asB x75 fun b76 => onB b76 (Ev tb nv 8 [(.pointer none), a1] H73 fun x77 H78 =>
    wP .lenS [x77] fun x79 =>
    wP (.bin .eql) [x79, (.int .i64 0)] fun x80 =>
    asB x80 fun b81 => onB b81 (Ev tb nv 10 [(.pointer none)] H78 fun x82 H83 =>
    wP (.un .not) [x82] fun x84 =>
    asB x84 fun b85 => onB b85 (Ev tb nv 11 [(.pointer none)] H83 fun x86 H87 =>
    wP (.build [(.int .i64 0), (.int .i64 0)] []) [] fun x88 =>
    wP (.aggEq false [.i, .i]) [x86, x88] fun x89 =>
    asB x89 fun b90 => onB b90 (Ev tb nv 12 [(.pointer none)] H87 fun x91 H92 =>
    wP (.field 0 1 false) [x91] fun x93 =>
    wP (.bin .eql) [x93, (.int .i64 0)] fun x94 =>
    asB x94 fun b95 => onB b95 (Ev tb nv 13 [(.pointer none)] H92 fun x96 H97 =>
    wP (.un .not) [x96] fun x98 =>
    asB x98 fun b99 => onB b99 (Ev tb nv 14 [(.pointer none)] H97 fun x100 H101 =>
    wP (.bin .eql) [x100, (.int .i64 0)] fun x102 =>
    asB x102 fun b103 => onB b103 (Ev tb nv 15 [(.pointer none)] H101 fun x104 H105 =>
    wP .lenS [x104] fun x106 =>
    wP (.bin .eql) [x106, (.int .i64 0)] fun x107 =>
    asB x107 fun b108 => onB b108 (Ev tb nv 16 [(.pointer none)] H105 fun x109 H110 =>
    wP (.bin .eql) [x109, (.int .i64 0)] fun x111 =>
    atK (Q x111 H110))
    (atK (Q (.bool false) H105)))
    (atK (Q (.bool false) H101)))
    (atK (Q (.bool false) H97)))
    (atK (Q (.bool false) H92)))
    (atK (Q (.bool false) H87)))
    (atK (Q (.bool false) H83)))
    (atK (Q (.bool false) H78)))
    (atK (Q (.bool false) H73))))
    (wR (.load 28 true) [x0] H48 fun x112 =>
    Ev tb nv 9 [(.pointer none), x112, a1] H48 fun x113 H114 =>
    wP .lenS [x113] fun x115 =>
    wP (.bin .eql) [x115, (.int .i64 0)] fun x116 =>
    asB x116 fun b117 => onB b117 (Ev tb nv 8 [(.pointer none), a1] H114 fun x118 H119 =>
    wP .lenS [x118] fun x120 =>
    wP (.bin .eql) [x120, (.int .i64 0)] fun x121 =>
    asB x121 fun b122 => onB b122 (Ev tb nv 10 [(.pointer none)] H119 fun x123 H124 =>
    wP (.un .not) [x123] fun x125 =>
    asB x125 fun b126 => onB b126 (Ev tb nv 11 [(.pointer none)] H124 fun x127 H128 =>
    wP (.build [(.int .i64 0), (.int .i64 0)] []) [] fun x129 =>
    wP (.aggEq false [.i, .i]) [x127, x129] fun x130 =>
    asB x130 fun b131 => onB b131 (Ev tb nv 12 [(.pointer none)] H128 fun x132 H133 =>
    wP (.field 0 1 false) [x132] fun x134 =>
    wP (.bin .eql) [x134, (.int .i64 0)] fun x135 =>
    asB x135 fun b136 => onB b136 (Ev tb nv 13 [(.pointer none)] H133 fun x137 H138 =>
    wP (.un .not) [x137] fun x139 =>
    asB x139 fun b140 => onB b140 (Ev tb nv 14 [(.pointer none)] H138 fun x141 H142 =>
    wP (.bin .eql) [x141, (.int .i64 0)] fun x143 =>
    asB x143 fun b144 => onB b144 (Ev tb nv 15 [(.pointer none)] H142 fun x145 H146 =>
    wP .lenS [x145] fun x147 =>
    wP (.bin .eql) [x147, (.int .i64 0)] fun x148 =>
    asB x148 fun b149 => onB b149 (Ev tb nv 16 [(.pointer none)] H146 fun x150 H151 =>
    wP (.bin .eql) [x150, (.int .i64 0)] fun x152 =>
    atK (Q x152 H151))
    (atK (Q (.bool false) H146)))
    (atK (Q (.bool false) H142)))
    (atK (Q (.bool false) H138)))
    (atK (Q (.bool false) H133)))
    (atK (Q (.bool false) H128)))
    (atK (Q (.bool false) H124)))
    (atK (Q (.bool false) H119)))
    (atK (Q (.bool false) H114))))))))))) := by kernel_rfl

/-- tompion/node.New -/
def c4_6 : C := .ret
def c4_5 : C := (.keep [4, 5] c4_6)
def c4_1 : C := (.seq (.region [
      ⟨(some 30), (.read (.load 7 true) [5]), [.t 2], none⟩,
      ⟨(some 31), (.read (.load 2 true) [5]), [.t 3], none⟩,
      ⟨(some 32), (.pure (.fadd 2)), [.t 2], none⟩,
      ⟨(some 33), (.read (.load 1 false) []), [.t 32], none⟩,
      ⟨(some 34), (.call 18), [.t 33], none⟩,
      ⟨(some 35), (.pure (.build [(.int .i64 (Int.ofNat 0)), (.int .i64 (Int.ofNat 0)), (.int .i64 (Int.ofNat 0)), (.int .i64 (Int.ofNat 0)), (.int .i64 (Int.ofNat 0)), (.int .i64 (Int.ofNat 0)), (.int .i64 (Int.ofNat 0)), (.int .i64 (Int.ofNat 0)), (.int .i64 (Int.ofNat 0)), (.pointer none), (.int .i64 (Int.ofNat 0)), (.slice none 0 0), (.bool false), (.bool false), (.int .i64 (Int.ofNat 0)), (.bool false), (.int .i64 (Int.ofNat 0)), (.int .i64 (Int.ofNat 0)), (.int .i64 (Int.ofNat 0)), (.int .i64 (Int.ofNat 0)), (.int .i64 (Int.ofNat 0)), (.slice none 0 0)] [(0, 7), (7, 2), (9, 1), (16, 1)])), [.t 30, .t 31, .t 34, .c (.int .i64 (Int.negSucc 0))], none⟩,
      ⟨(some 36), (.alloc .box), [.t 35], none⟩,
      ⟨(some 4), (.pure .mov), [.t 36], none⟩,
      ⟨(some 5), (.pure .mov), [.c (.int .i64 (Int.ofNat 0))], none⟩] true) c4_5)
def c4_4 : C := .ret
def c4_3 : C := (.keep [4, 5] c4_4)
def c4_2 : C := (.cond (.t 29) (.seq (.region [
      ⟨(some 4), (.pure .mov), [.c (.pointer none)], none⟩,
      ⟨(some 5), (.pure .mov), [.c (.int .i64 (Int.ofNat 1))], none⟩] false) c4_3)
    .skip)
def c4_0 : C := (.seq (.seq (.region [
      ⟨(some 6), (.call 17), [.t 2], none⟩,
      ⟨(some 7), (.pure (.un .not)), [.t 6], none⟩,
      ⟨(some 8), (.pure .mov), [.t 7], none⟩,
      ⟨(some 9), (.pure (.fadd 0)), [.t 3], (some (8, false))⟩,
      ⟨(some 10), (.read (.load 1 false) []), [.t 9], (some (8, false))⟩,
      ⟨(some 11), (.pure (.bin .lss)), [.t 10, .c (.int .i64 (Int.ofNat 0))], (some (8, false))⟩,
      ⟨(some 12), (.pure .pick), [.t 8, .c (.bool true), .t 11], none⟩,
      ⟨(some 13), (.pure .mov), [.t 12], none⟩,
      ⟨(some 14), (.pure (.fadd 0)), [.t 3], (some (13, false))⟩,
      ⟨(some 15), (.read (.load 1 false) []), [.t 14], (some (13, false))⟩,
      ⟨(some 16), (.pure (.fadd 0)), [.t 2], (some (13, false))⟩,
      ⟨(some 17), (.read (.load 1 false) []), [.t 16], (some (13, false))⟩,
      ⟨(some 18), (.pure (.bin .geq)), [.t 15, .t 17], (some (13, false))⟩,
      ⟨(some 19), (.pure .pick), [.t 13, .c (.bool true), .t 18], none⟩,
      ⟨(some 20), (.pure .mov), [.t 19], none⟩,
      ⟨(some 21), (.pure (.fadd 1)), [.t 3], (some (20, false))⟩,
      ⟨(some 22), (.read (.load 1 false) []), [.t 21], (some (20, false))⟩,
      ⟨(some 23), (.pure (.bin .lss)), [.t 22, .c (.int .i64 (Int.ofNat 1))], (some (20, false))⟩,
      ⟨(some 24), (.pure .pick), [.t 20, .c (.bool true), .t 23], none⟩,
      ⟨(some 25), (.pure .mov), [.t 24], none⟩,
      ⟨(some 26), (.pure (.fadd 1)), [.t 3], (some (25, false))⟩,
      ⟨(some 27), (.read (.load 1 false) []), [.t 26], (some (25, false))⟩,
      ⟨(some 28), (.pure (.bin .gtr)), [.t 27, .c (.int .i64 (Int.ofNat 1099511627776))], (some (25, false))⟩,
      ⟨(some 29), (.pure .pick), [.t 25, .c (.bool true), .t 28], none⟩] false) c4_2) c4_1)
def k4 : DFn := ⟨37, (.seq (.region [
      ⟨(some 2), (.alloc .box), [.t 0], none⟩,
      ⟨(some 3), (.alloc .box), [.t 1], none⟩,
      ⟨(some 4), (.pure .mov), [.c (.pointer none)], none⟩,
      ⟨(some 5), (.pure .mov), [.c (.int .i64 (Int.ofNat 0))], none⟩] false) c4_0), [.tmp 4, .tmp 5]⟩
theorem c4 : (match Tryz.prog.funcs[4]? with | some fn => compileFn Tryz.prog 4 [none, none, none, none, some [4, 5], none, some [4, 5]] fn | none => none) = some k4 := by kernel_rfl


/-- tompion/tompionlaw16.setup -/
def c5_2 : C := .ret
def c5_1 : C := (.keep [2] c5_2)
def c5_0 : C := (.seq (.region [
      ⟨(some 3), (.pure .mov), [.t 0], none⟩,
      ⟨(some 4), (.pure (.build [(.int .i64 (Int.ofNat 0)), (.int .i64 (Int.ofNat 0)), (.int .i64 (Int.ofNat 0)), (.int .i64 (Int.ofNat 0)), (.int .i64 (Int.ofNat 0)), (.int .i64 (Int.ofNat 0)), (.int .i64 (Int.ofNat 0))] [(0, 1), (1, 1), (2, 1), (3, 1), (4, 1), (5, 1)])), [.t 3, .c (.int .i64 (Int.ofNat 2)), .c (.int .i64 (Int.ofNat 5)), .c (.int .i64 (Int.ofNat 1000)), .c (.int .i64 (Int.ofNat 10)), .c (.int .i64 (Int.ofNat 0))], none⟩,
      ⟨none, (.eff (.store 7)), [.t 2, .t 4], none⟩] false) c5_1)
def k5 : DFn := ⟨5, (.seq (.region [
      ⟨(some 2), (.alloc (.alloc [(.int .i64 (Int.ofNat 0)), (.int .i64 (Int.ofNat 0)), (.int .i64 (Int.ofNat 0)), (.int .i64 (Int.ofNat 0)), (.int .i64 (Int.ofNat 0)), (.int .i64 (Int.ofNat 0)), (.int .i64 (Int.ofNat 0))])), [], none⟩] false) c5_0), [.cell 2 7 true]⟩
theorem c5 : (match Tryz.prog.funcs[5]? with | some fn => compileFn Tryz.prog 4 [none, none, some [2]] fn | none => none) = some k5 := by kernel_rfl


/-- tompion/tompionlaw16.awake -/
def c6_12 : C := .ret
def c6_11 : C := (.keep [0] c6_12)
def c6_10 : C := (.seq (.region [
      ⟨(some 39), (.pure .mov), [.t 3], none⟩,
      ⟨(some 40), (.pure .lenS), [.t 39], none⟩,
      ⟨(some 41), (.pure (.bin .eql)), [.t 40, .c (.int .i64 (Int.ofNat 1))], none⟩,
      ⟨(some 42), (.pure .mov), [.t 41], none⟩,
      ⟨(some 43), (.pure .mov), [.t 3], (some (42, true))⟩,
      ⟨(some 44), (.pure (.iaddS 28)), [.t 43, .c (.int .i64 (Int.ofNat 0))], (some (42, true))⟩,
      ⟨(some 45), (.pure (.fadd 0)), [.t 44], (some (42, true))⟩,
      ⟨(some 46), (.read (.load 1 false) []), [.t 45], (some (42, true))⟩,
      ⟨(some 47), (.pure (.bin .eql)), [.t 46, .c (.int .i64 (Int.ofNat 8))], (some (42, true))⟩,
      ⟨(some 48), (.pure .pick), [.t 42, .t 47, .c (.bool false)], none⟩,
      ⟨(some 49), (.pure .mov), [.t 48], none⟩,
      ⟨(some 50), (.pure .mov), [.t 3], (some (49, true))⟩,
      ⟨(some 51), (.pure (.iaddS 28)), [.t 50, .c (.int .i64 (Int.ofNat 0))], (some (49, true))⟩,
      ⟨(some 52), (.pure (.fadd 5)), [.t 51], (some (49, true))⟩,
      ⟨(some 53), (.read (.load 1 false) []), [.t 52], (some (49, true))⟩,
      ⟨(some 54), (.pure (.bin .eql)), [.t 53, .c (.int .i64 (Int.ofNat 1))], (some (49, true))⟩,
      ⟨(some 55), (.pure .pick), [.t 49, .t 54, .c (.bool false)], none⟩,
      ⟨(some 56), (.pure .mov), [.t 55], none⟩,
      ⟨(some 57), (.pure .mov), [.t 3], (some (56, true))⟩,
      ⟨(some 58), (.pure (.iaddS 28)), [.t 57, .c (.int .i64 (Int.ofNat 0))], (some (56, true))⟩,
      ⟨(some 59), (.pure (.fadd 21)), [.t 58], (some (56, true))⟩,
      ⟨(some 60), (.read (.load 3 true) []), [.t 59], (some (56, true))⟩,
      ⟨(some 61), (.pure (.build [(.int .i64 (Int.ofNat 0)), (.int .i64 (Int.ofNat 0)), (.int .i64 (Int.ofNat 0))] [(1, 1), (2, 1)])), [.c (.int .i64 (Int.ofNat 1)), .c (.int .i64 (Int.ofNat 5))], (some (56, true))⟩,
      ⟨(some 62), (.pure (.aggEq false [.i, .i, .i])), [.t 60, .t 61], (some (56, true))⟩,
      ⟨(some 63), (.pure .pick), [.t 56, .t 62, .c (.bool false)], none⟩,
      ⟨(some 64), (.pure .mov), [.t 63], none⟩,
      ⟨(some 65), (.pure .mov), [.t 4], (some (64, true))⟩,
      ⟨(some 66), (.pure .lenS), [.t 65], (some (64, true))⟩,
      ⟨(some 67), (.pure (.bin .eql)), [.t 66, .c (.int .i64 (Int.ofNat 1))], (some (64, true))⟩,
      ⟨(some 68), (.pure .pick), [.t 64, .t 67, .c (.bool false)], none⟩,
      ⟨(some 69), (.pure .mov), [.t 68], none⟩,
      ⟨(some 70), (.pure .mov), [.t 4], (some (69, true))⟩,
      ⟨(some 71), (.pure (.iaddS 28)), [.t 70, .c (.int .i64 (Int.ofNat 0))], (some (69, true))⟩,
      ⟨(some 72), (.pure (.fadd 5)), [.t 71], (some (69, true))⟩,
      ⟨(some 73), (.read (.load 1 false) []), [.t 72], (some (69, true))⟩,
      ⟨(some 74), (.pure (.bin .eql)), [.t 73, .c (.int .i64 (Int.ofNat 1))], (some (69, true))⟩,
      ⟨(some 75), (.pure .pick), [.t 69, .t 74, .c (.bool false)], none⟩,
      ⟨(some 76), (.pure .mov), [.t 75], none⟩,
      ⟨(some 77), (.pure .mov), [.t 5], (some (76, true))⟩,
      ⟨(some 78), (.pure .lenS), [.t 77], (some (76, true))⟩,
      ⟨(some 79), (.pure (.bin .eql)), [.t 78, .c (.int .i64 (Int.ofNat 2))], (some (76, true))⟩,
      ⟨(some 80), (.pure .pick), [.t 76, .t 79, .c (.bool false)], none⟩,
      ⟨(some 81), (.pure .mov), [.t 80], none⟩,
      ⟨(some 82), (.pure .mov), [.t 5], (some (81, true))⟩,
      ⟨(some 83), (.pure (.iaddS 28)), [.t 82, .c (.int .i64 (Int.ofNat 0))], (some (81, true))⟩,
      ⟨(some 84), (.pure (.fadd 0)), [.t 83], (some (81, true))⟩,
      ⟨(some 85), (.read (.load 1 false) []), [.t 84], (some (81, true))⟩,
      ⟨(some 86), (.pure (.bin .eql)), [.t 85, .c (.int .i64 (Int.ofNat 1))], (some (81, true))⟩,
      ⟨(some 87), (.pure .pick), [.t 81, .t 86, .c (.bool false)], none⟩,
      ⟨(some 88), (.pure .mov), [.t 87], none⟩,
      ⟨(some 89), (.pure .mov), [.t 5], (some (88, true))⟩,
      ⟨(some 90), (.pure (.iaddS 28)), [.t 89, .c (.int .i64 (Int.ofNat 0))], (some (88, true))⟩,
      ⟨(some 91), (.pure (.fadd 10)), [.t 90], (some (88, true))⟩,
      ⟨(some 92), (.read (.load 1 false) []), [.t 91], (some (88, true))⟩,
      ⟨(some 93), (.pure .pick), [.t 88, .t 92, .c (.bool false)], none⟩,
      ⟨(some 94), (.pure .mov), [.t 93], none⟩,
      ⟨(some 95), (.pure .mov), [.t 5], (some (94, true))⟩,
      ⟨(some 96), (.pure (.iaddS 28)), [.t 95, .c (.int .i64 (Int.ofNat 1))], (some (94, true))⟩,
      ⟨(some 97), (.pure (.fadd 0)), [.t 96], (some (94, true))⟩,
      ⟨(some 98), (.read (.load 1 false) []), [.t 97], (some (94, true))⟩,
      ⟨(some 99), (.pure (.bin .eql)), [.t 98, .c (.int .i64 (Int.ofNat 14))], (some (94, true))⟩,
      ⟨(some 100), (.pure .pick), [.t 94, .t 99, .c (.bool false)], none⟩,
      ⟨(some 101), (.pure .mov), [.t 100], none⟩,
      ⟨(some 102), (.pure .mov), [.t 5], (some (101, true))⟩,
      ⟨(some 103), (.pure (.iaddS 28)), [.t 102, .c (.int .i64 (Int.ofNat 1))], (some (101, true))⟩,
      ⟨(some 104), (.pure (.fadd 26)), [.t 103], (some (101, true))⟩,
      ⟨(some 105), (.read (.load 1 false) []), [.t 104], (some (101, true))⟩,
      ⟨(some 106), (.pure .lenS), [.t 105], (some (101, true))⟩,
      ⟨(some 107), (.pure (.bin .eql)), [.t 106, .c (.int .i64 (Int.ofNat 1))], (some (101, true))⟩,
      ⟨(some 108), (.pure .pick), [.t 101, .t 107, .c (.bool false)], none⟩,
      ⟨(some 109), (.pure .mov), [.t 108], none⟩,
      ⟨(some 110), (.pure .mov), [.t 1], (some (109, true))⟩,
      ⟨(some 111), (.call 14), [.t 110], (some (109, true))⟩,
      ⟨(some 112), (.pure (.bin .eql)), [.t 111, .c (.int .i64 (Int.ofNat 2))], (some (109, true))⟩,
      ⟨(some 113), (.pure .pick), [.t 109, .t 112, .c (.bool false)], none⟩,
      ⟨(some 114), (.pure .mov), [.t 113], none⟩,
      ⟨(some 115), (.pure .mov), [.t 1], (some (114, true))⟩,
      ⟨(some 116), (.call 15), [.t 115], (some (114, true))⟩,
      ⟨(some 117), (.pure .lenS), [.t 116], (some (114, true))⟩,
      ⟨(some 118), (.pure (.bin .eql)), [.t 117, .c (.int .i64 (Int.ofNat 2))], (some (114, true))⟩,
      ⟨(some 119), (.pure .pick), [.t 114, .t 118, .c (.bool false)], none⟩,
      ⟨(some 120), (.pure .mov), [.t 119], none⟩,
      ⟨(some 121), (.pure .mov), [.t 7], (some (120, true))⟩,
      ⟨(some 122), (.pure (.bin .eql)), [.t 121, .c (.int .i64 (Int.ofNat 1))], (some (120, true))⟩,
      ⟨(some 123), (.pure .pick), [.t 120, .t 122, .c (.bool false)], none⟩,
      ⟨(some 0), (.pure .mov), [.t 123], none⟩] false) c6_11)
def c6_9 : C := (.seq (.region [
      ⟨(some 34), (.call 5), [.c (.int .i64 (Int.ofNat 1))], none⟩,
      ⟨(some 35), (.pure (.build [(.int .i64 (Int.ofNat 0)), (.int .i64 (Int.ofNat 0))] [(0, 1), (1, 1)])), [.c (.int .i64 (Int.ofNat 1)), .c (.int .i64 (Int.ofNat 1))], none⟩,
      ⟨(some 36), (.call 4), [.t 34, .t 35], none⟩,
      ⟨(some 33), (.pure .mov), [.t 36], none⟩,
      ⟨(some 37), (.pure (.extract 0)), [.t 33], none⟩,
      ⟨(some 38), (.pure (.extract 1)), [.t 33], none⟩,
      ⟨(some 6), (.pure .mov), [.t 37], none⟩,
      ⟨(some 7), (.pure .mov), [.t 38], none⟩] false) c6_10)
def c6_8 : C := (.seq (.region [
      ⟨(some 31), (.pure .mov), [.t 1], none⟩,
      ⟨(some 32), (.call 8), [.t 31, .c (.int .i64 (Int.ofNat 9))], none⟩,
      ⟨(some 5), (.pure .mov), [.t 32], none⟩] false) c6_9)
def c6_7 : C := (.seq (.region [
      ⟨(some 27), (.pure .mov), [.t 1], none⟩,
      ⟨(some 28), (.pure (.build [(.int .i64 (Int.ofNat 0)), (.int .i64 (Int.ofNat 0)), (.int .i64 (Int.ofNat 0)), (.int .i64 (Int.ofNat 0)), (.int .i64 (Int.ofNat 0)), (.int .i64 (Int.ofNat 0)), (.int .i64 (Int.ofNat 0)), (.int .i64 (Int.ofNat 0)), (.int .i64 (Int.ofNat 0)), (.string ⟨⟨[]⟩⟩)] [(0, 1), (1, 1), (2, 1), (3, 1), (6, 1)])), [.c (.int .i64 (Int.ofNat 1)), .c (.int .i64 (Int.ofNat 100)), .c (.int .i64 (Int.ofNat 1)), .c (.int .i64 (Int.ofNat 7)), .c (.int .i64 (Int.ofNat 5))], none⟩,
      ⟨(some 29), (.call 20), [.t 28], none⟩,
      ⟨(some 30), (.call 9), [.t 27, .t 29, .c (.int .i64 (Int.ofNat 4))], none⟩,
      ⟨(some 4), (.pure .mov), [.t 30], none⟩] false) c6_8)
def c6_6 : C := (.seq (.region [
      ⟨(some 23), (.pure .mov), [.t 1], none⟩,
      ⟨(some 24), (.pure (.build [(.int .i64 (Int.ofNat 0)), (.int .i64 (Int.ofNat 0)), (.int .i64 (Int.ofNat 0)), (.int .i64 (Int.ofNat 0)), (.int .i64 (Int.ofNat 0)), (.int .i64 (Int.ofNat 0)), (.int .i64 (Int.ofNat 0)), (.int .i64 (Int.ofNat 0)), (.int .i64 (Int.ofNat 0)), (.string ⟨⟨[]⟩⟩)] [(0, 1), (1, 1), (2, 1), (3, 1), (6, 1)])), [.c (.int .i64 (Int.ofNat 1)), .c (.int .i64 (Int.ofNat 100)), .c (.int .i64 (Int.ofNat 1)), .c (.int .i64 (Int.ofNat 7)), .c (.int .i64 (Int.ofNat 5))], none⟩,
      ⟨(some 25), (.call 20), [.t 24], none⟩,
      ⟨(some 26), (.call 9), [.t 23, .t 25, .c (.int .i64 (Int.ofNat 3))], none⟩,
      ⟨(some 3), (.pure .mov), [.t 26], none⟩] false) c6_7)
def c6_2 : C := (.seq (.region [
      ⟨(some 20), (.pure .mov), [.t 1], none⟩,
      ⟨(some 21), (.call 19), [.c (.int .i64 (Int.ofNat 1))], none⟩,
      ⟨(some 22), (.call 7), [.t 20, .t 21], none⟩] false) c6_6)
def c6_5 : C := .ret
def c6_4 : C := (.keep [0] c6_5)
def c6_3 : C := (.cond (.t 19) (.seq (.region [
      ⟨(some 0), (.pure .mov), [.c (.bool false)], none⟩] false) c6_4)
    .skip)
def c6_1 : C := (.seq (.seq (.region [
      ⟨(some 14), (.pure .mov), [.t 1], none⟩,
      ⟨(some 15), (.pure (.nilEq false .ptr)), [.t 14], none⟩,
      ⟨(some 16), (.pure .mov), [.t 15], none⟩,
      ⟨(some 17), (.pure .mov), [.t 2], (some (16, false))⟩,
      ⟨(some 18), (.pure (.bin .neq)), [.t 17, .c (.int .i64 (Int.ofNat 0))], (some (16, false))⟩,
      ⟨(some 19), (.pure .pick), [.t 16, .c (.bool true), .t 18], none⟩] false) c6_3) c6_2)
def c6_0 : C := (.seq (.region [
      ⟨(some 9), (.call 5), [.c (.int .i64 (Int.ofNat 1))], none⟩,
      ⟨(some 10), (.pure (.build [(.int .i64 (Int.ofNat 0)), (.int .i64 (Int.ofNat 0))] [(0, 1), (1, 1)])), [.c (.int .i64 (Int.ofNat 0)), .c (.int .i64 (Int.ofNat 1))], none⟩,
      ⟨(some 11), (.call 4), [.t 9, .t 10], none⟩,
      ⟨(some 8), (.pure .mov), [.t 11], none⟩,
      ⟨(some 12), (.pure (.extract 0)), [.t 8], none⟩,
      ⟨(some 13), (.pure (.extract 1)), [.t 8], none⟩,
      ⟨(some 1), (.pure .mov), [.t 12], none⟩,
      ⟨(some 2), (.pure .mov), [.t 13], none⟩] false) c6_1)
def k6 : DFn := ⟨124, (.seq (.region [
      ⟨(some 0), (.pure .mov), [.c (.bool false)], none⟩] false) c6_0), [.tmp 0]⟩
theorem c6 : (match Tryz.prog.funcs[6]? with | some fn => compileFn Tryz.prog 4 [none, none, none, none, none, some [0], none, none, none, none, none, none, some [0]] fn | none => none) = some k6 := by kernel_rfl


/-- (*tompion/node.Node).Seat -/
def c7_2 : C := (.region [
      ⟨(some 36), (.pure .mov), [.t 0], none⟩,
      ⟨(some 37), (.pure .mov), [.t 0], none⟩,
      ⟨(some 38), (.pure .nilchk), [.t 36], none⟩,
      ⟨(some 39), (.pure (.fadd 12)), [.t 38], none⟩,
      ⟨none, (.eff (.store 1)), [.t 39, .c (.bool true)], none⟩,
      ⟨(some 40), (.pure .nilchk), [.t 37], none⟩,
      ⟨(some 41), (.pure (.fadd 15)), [.t 40], none⟩,
      ⟨none, (.eff (.store 1)), [.t 41, .c (.bool true)], none⟩] false)
def c7_1 : C := (.cond (.t 26) (.seq (.region [
      ⟨(some 27), (.pure .mov), [.t 0], none⟩,
      ⟨(some 28), (.pure (.fadd 0)), [.t 3], none⟩,
      ⟨(some 29), (.read (.load 1 false) [6]), [.t 28], none⟩,
      ⟨(some 30), (.pure (.fadd 1)), [.t 3], none⟩,
      ⟨(some 31), (.read (.load 1 false) []), [.t 30], none⟩,
      ⟨(some 32), (.call 23), [.t 31], none⟩,
      ⟨(some 33), (.pure (.build [(.int .i64 (Int.ofNat 0)), (.slice none 0 0)] [(0, 1), (1, 1)])), [.t 29, .t 32], none⟩,
      ⟨(some 34), (.pure .nilchk), [.t 27], none⟩,
      ⟨(some 35), (.pure (.fadd 10)), [.t 34], none⟩,
      ⟨none, (.eff (.store 2)), [.t 35, .t 33], none⟩] true) c7_2)
    .skip)
def c7_0 : C := (.seq (.region [
      ⟨(some 4), (.pure .mov), [.t 0], none⟩,
      ⟨(some 5), (.pure (.nilEq true .ptr)), [.t 4], none⟩,
      ⟨(some 6), (.pure .mov), [.t 5], none⟩,
      ⟨(some 7), (.pure .mov), [.t 0], (some (6, true))⟩,
      ⟨(some 8), (.pure .nilchk), [.t 7], (some (6, true))⟩,
      ⟨(some 9), (.pure (.fadd 10)), [.t 8], (some (6, true))⟩,
      ⟨(some 10), (.pure (.fadd 0)), [.t 9], (some (6, true))⟩,
      ⟨(some 11), (.read (.load 1 false) []), [.t 10], (some (6, true))⟩,
      ⟨(some 12), (.pure (.bin .eql)), [.t 11, .c (.int .i64 (Int.ofNat 0))], (some (6, true))⟩,
      ⟨(some 13), (.pure .pick), [.t 6, .t 12, .c (.bool false)], none⟩,
      ⟨(some 14), (.pure .mov), [.t 13], none⟩,
      ⟨(some 15), (.read (.load 2 true) []), [.t 3], (some (14, true))⟩,
      ⟨(some 16), (.call 21), [.t 15], (some (14, true))⟩,
      ⟨(some 17), (.pure .pick), [.t 14, .t 16, .c (.bool false)], none⟩,
      ⟨(some 18), (.pure .mov), [.t 17], none⟩,
      ⟨(some 19), (.read (.load 2 true) []), [.t 3], (some (18, true))⟩,
      ⟨(some 20), (.pure .mov), [.t 0], (some (18, true))⟩,
      ⟨(some 21), (.pure .nilchk), [.t 20], (some (18, true))⟩,
      ⟨(some 22), (.pure (.fadd 7)), [.t 21], (some (18, true))⟩,
      ⟨(some 23), (.read (.load 2 true) []), [.t 22], (some (18, true))⟩,
      ⟨(some 24), (.call 22), [.t 19, .t 23], (some (18, true))⟩,
      ⟨(some 25), (.pure (.bin .geq)), [.t 24, .c (.int .i64 (Int.ofNat 0))], (some (18, true))⟩,
      ⟨(some 26), (.pure .pick), [.t 18, .t 25, .c (.bool false)], none⟩] false) c7_1)
def k7 : DFn := ⟨42, (.seq (.region [
      ⟨(some 3), (.alloc .box), [.t 1], none⟩] false) c7_0), []⟩
theorem c7 : (match Tryz.prog.funcs[7]? with | some fn => compileFn Tryz.prog 4 [none, none, none] fn | none => none) = some k7 := by kernel_rfl


/-- (*tompion/node.Node).Tick -/
def c8_18 : C := .ret
def c8_17 : C := (.keep [4] c8_18)
def c8_16 : C := (.seq (.region [
      ⟨(some 73), (.pure .mov), [.t 5], none⟩,
      ⟨(some 4), (.pure .mov), [.t 73], none⟩] false) c8_17)
def c8_14 : C := (.keep [5] c8_16)
def c8_15 : C := (.cond (.t 64) (.region [
      ⟨(some 65), (.pure .mov), [.t 5], none⟩,
      ⟨(some 66), (.pure .mov), [.t 0], none⟩,
      ⟨(some 67), (.pure .mov), [.t 0], none⟩,
      ⟨(some 68), (.pure .nilchk), [.t 67], none⟩,
      ⟨(some 69), (.pure (.fadd 17)), [.t 68], none⟩,
      ⟨(some 70), (.read (.load 1 false) []), [.t 69], none⟩,
      ⟨(some 71), (.call 28), [.t 66, .c (.int .i64 (Int.ofNat 6)), .t 70], none⟩,
      ⟨(some 72), (.eff (.app 28 264)), [.t 65, .t 71], none⟩,
      ⟨(some 5), (.pure .mov), [.t 72], none⟩] false)
    .skip)
def c8_13 : C := (.seq (.seq (.region [
      ⟨(some 60), (.pure .mov), [.t 0], none⟩,
      ⟨(some 61), (.pure .nilchk), [.t 60], none⟩,
      ⟨(some 62), (.pure (.fadd 17)), [.t 61], none⟩,
      ⟨(some 63), (.read (.load 1 false) []), [.t 62], none⟩,
      ⟨(some 64), (.pure (.bin .gtr)), [.t 63, .c (.int .i64 (Int.ofNat 0))], none⟩] false) c8_15) c8_14)
def c8_12 : C := (.seq (.region [
      ⟨(some 56), (.pure .mov), [.t 5], none⟩,
      ⟨(some 57), (.pure .mov), [.t 0], none⟩,
      ⟨(some 58), (.call 27), [.t 57], none⟩,
      ⟨(some 59), (.eff (.app 28 264)), [.t 56, .t 58], none⟩,
      ⟨(some 5), (.pure .mov), [.t 59], none⟩] false) c8_13)
def c8_11 : C := (.seq (.region [
      ⟨(some 52), (.pure .mov), [.t 5], none⟩,
      ⟨(some 53), (.pure .mov), [.t 0], none⟩,
      ⟨(some 54), (.call 26), [.t 53], none⟩,
      ⟨(some 55), (.eff (.app 28 264)), [.t 52, .t 54], none⟩,
      ⟨(some 5), (.pure .mov), [.t 55], none⟩] false) c8_12)
def c8_7 : C := (.seq (.region [
      ⟨(some 47), (.pure .mov), [.t 5], none⟩,
      ⟨(some 48), (.pure .mov), [.t 0], none⟩,
      ⟨(some 49), (.pure .mov), [.t 1], none⟩,
      ⟨(some 50), (.call 25), [.t 48, .t 49], none⟩,
      ⟨(some 51), (.eff (.app 28 264)), [.t 47, .t 50], none⟩,
      ⟨(some 5), (.pure .mov), [.t 51], none⟩] false) c8_11)
def c8_10 : C := .ret
def c8_9 : C := (.keep [4] c8_10)
def c8_8 : C := (.cond (.t 45) (.seq (.region [
      ⟨(some 46), (.pure .mov), [.t 5], none⟩,
      ⟨(some 4), (.pure .mov), [.t 46], none⟩] false) c8_9)
    .skip)
def c8_6 : C := (.seq (.seq (.region [
      ⟨(some 43), (.pure .mov), [.t 0], none⟩,
      ⟨(some 44), (.call 24), [.t 43], none⟩,
      ⟨(some 45), (.pure (.un .not)), [.t 44], none⟩] false) c8_8) c8_7)
def c8_5 : C := (.seq (.region [
      ⟨(some 24), (.pure .mov), [.t 0], none⟩,
      ⟨(some 25), (.pure .nilchk), [.t 24], none⟩,
      ⟨(some 26), (.pure (.fadd 7)), [.t 25], none⟩,
      ⟨(some 27), (.read (.load 2 true) []), [.t 26], none⟩,
      ⟨(some 28), (.pure .mov), [.t 0], none⟩,
      ⟨(some 29), (.pure .nilchk), [.t 28], none⟩,
      ⟨(some 30), (.pure (.fadd 10)), [.t 29], none⟩,
      ⟨(some 31), (.pure (.fadd 0)), [.t 30], none⟩,
      ⟨(some 32), (.read (.load 1 false) []), [.t 31], none⟩,
      ⟨(some 33), (.pure .mov), [.t 0], none⟩,
      ⟨(some 34), (.pure .nilchk), [.t 33], none⟩,
      ⟨(some 35), (.pure (.fadd 15)), [.t 34], none⟩,
      ⟨(some 36), (.read (.load 1 false) []), [.t 35], none⟩,
      ⟨(some 37), (.pure .mov), [.t 0], none⟩,
      ⟨(some 38), (.pure .nilchk), [.t 37], none⟩,
      ⟨(some 39), (.pure (.fadd 14)), [.t 38], none⟩,
      ⟨(some 40), (.read (.load 1 false) []), [.t 39], none⟩,
      ⟨(some 41), (.pure (.build [(.int .i64 (Int.ofNat 0)), (.int .i64 (Int.ofNat 0)), (.int .i64 (Int.ofNat 0)), (.int .i64 (Int.ofNat 0)), (.int .i64 (Int.ofNat 0)), (.int .i64 (Int.ofNat 0)), (.int .i64 (Int.ofNat 0)), (.int .i64 (Int.ofNat 0)), (.int .i64 (Int.ofNat 0)), (.int .i64 (Int.ofNat 0)), (.bool false), (.int .i64 (Int.ofNat 0)), (.int .i64 (Int.ofNat 0)), (.int .i64 (Int.ofNat 0)), (.int .i64 (Int.ofNat 0)), (.int .i64 (Int.ofNat 0)), (.int .i64 (Int.ofNat 0)), (.int .i64 (Int.ofNat 0)), (.int .i64 (Int.ofNat 0)), (.int .i64 (Int.ofNat 0)), (.string ⟨⟨[]⟩⟩), (.int .i64 (Int.ofNat 0)), (.int .i64 (Int.ofNat 0)), (.int .i64 (Int.ofNat 0)), (.int .i64 (Int.ofNat 0)), (.slice none 0 0), (.slice none 0 0), (.int .i64 (Int.ofNat 0))] [(0, 1), (1, 1), (2, 2), (4, 1), (10, 1), (5, 1)])), [.c (.int .i64 (Int.ofNat 1)), .c (.int .i64 (Int.ofNat 200)), .t 27, .t 32, .t 36, .t 40], none⟩,
      ⟨(some 42), (.alloc (.bslice [(.int .i64 (Int.ofNat 0)), (.int .i64 (Int.ofNat 0)), (.int .i64 (Int.ofNat 0)), (.int .i64 (Int.ofNat 0)), (.int .i64 (Int.ofNat 0)), (.int .i64 (Int.ofNat 0)), (.int .i64 (Int.ofNat 0)), (.int .i64 (Int.ofNat 0)), (.int .i64 (Int.ofNat 0)), (.int .i64 (Int.ofNat 0)), (.bool false), (.int .i64 (Int.ofNat 0)), (.int .i64 (Int.ofNat 0)), (.int .i64 (Int.ofNat 0)), (.int .i64 (Int.ofNat 0)), (.int .i64 (Int.ofNat 0)), (.int .i64 (Int.ofNat 0)), (.int .i64 (Int.ofNat 0)), (.int .i64 (Int.ofNat 0)), (.int .i64 (Int.ofNat 0)), (.string ⟨⟨[]⟩⟩), (.int .i64 (Int.ofNat 0)), (.int .i64 (Int.ofNat 0)), (.int .i64 (Int.ofNat 0)), (.int .i64 (Int.ofNat 0)), (.slice none 0 0), (.slice none 0 0), (.int .i64 (Int.ofNat 0))] [(0, 28)] 28 1)), [.t 41], none⟩,
      ⟨(some 5), (.pure .mov), [.t 42], none⟩] false) c8_6)
def c8_1 : C := (.seq (.region [
      ⟨(some 14), (.pure .mov), [.t 0], none⟩,
      ⟨(some 15), (.pure .mov), [.t 0], none⟩,
      ⟨(some 16), (.pure .mov), [.t 0], none⟩,
      ⟨(some 17), (.pure .nilchk), [.t 16], none⟩,
      ⟨(some 18), (.pure (.fadd 18)), [.t 17], none⟩,
      ⟨(some 19), (.read (.load 1 false) []), [.t 18], none⟩,
      ⟨(some 20), (.pure .nilchk), [.t 14], none⟩,
      ⟨(some 21), (.pure (.fadd 21)), [.t 20], none⟩,
      ⟨none, (.eff (.store 1)), [.t 21, .c (.slice none 0 0)], none⟩,
      ⟨(some 22), (.pure .nilchk), [.t 15], none⟩,
      ⟨(some 23), (.pure (.fadd 19)), [.t 22], none⟩,
      ⟨none, (.eff (.store 1)), [.t 23, .t 19], none⟩] false) c8_5)
def c8_4 : C := .ret
def c8_3 : C := (.keep [4] c8_4)
def c8_2 : C := (.cond (.t 13) (.seq (.region [
      ⟨(some 4), (.pure .mov), [.c (.slice none 0 0)], none⟩] false) c8_3)
    .skip)
def c8_0 : C := (.seq (.seq (.region [
      ⟨(some 6), (.pure .mov), [.t 0], none⟩,
      ⟨(some 7), (.pure (.nilEq false .ptr)), [.t 6], none⟩,
      ⟨(some 8), (.pure .mov), [.t 7], none⟩,
      ⟨(some 9), (.pure .mov), [.t 0], (some (8, false))⟩,
      ⟨(some 10), (.pure .nilchk), [.t 9], (some (8, false))⟩,
      ⟨(some 11), (.pure (.fadd 13)), [.t 10], (some (8, false))⟩,
      ⟨(some 12), (.read (.load 1 false) []), [.t 11], (some (8, false))⟩,
      ⟨(some 13), (.pure .pick), [.t 8, .c (.bool true), .t 12], none⟩] false) c8_2) c8_1)
def k8 : DFn := ⟨74, (.seq (.region [
      ⟨(some 4), (.pure .mov), [.c (.slice none 0 0)], none⟩] false) c8_0), [.tmp 4]⟩
theorem c8 : (match Tryz.prog.funcs[8]? with | some fn => compileFn Tryz.prog 4 [none, none, none, none, some [4], none, none, none, none, none, some [4], none, none, none, some [5], none, none, some [4]] fn | none => none) = some k8 := by kernel_rfl


/-- (*tompion/node.Node).Take -/
def c9_18 : C := .ret
def c9_17 : C := (.keep [6] c9_18)
def c9_12 : C := (.seq (.region [
      ⟨(some 6), (.pure .mov), [.c (.slice none 0 0)], none⟩] false) c9_17)
def c9_16 : C := .ret
def c9_15 : C := (.keep [6] c9_16)
def c9_14 : C := (.cond (.t 61) (.seq (.region [
      ⟨(some 62), (.pure .mov), [.t 10], none⟩,
      ⟨(some 63), (.pure .mov), [.t 2], none⟩,
      ⟨(some 64), .callv, [.t 62, .t 4, .t 63], none⟩,
      ⟨(some 6), (.pure .mov), [.t 64], none⟩] false) c9_15)
    .skip)
def c9_13 : C := (.seq (.region [
      ⟨(some 60), (.pure .mov), [.t 10], none⟩,
      ⟨(some 61), (.pure (.nilEq true .func)), [.t 60], none⟩] false) c9_14)
def c9_7 : C := (.seq (.seq (.region [
      ⟨(some 56), (.pure .mov), [.t 8], none⟩,
      ⟨(some 57), (.pure (.fadd 0)), [.t 4], none⟩,
      ⟨(some 58), (.read (.load 1 false) []), [.t 57], none⟩,
      ⟨(some 59), (.read (.lookup (.one .i) .nilFunc false) []), [.t 56, .t 58], none⟩,
      ⟨(some 10), (.pure .mov), [.t 59], none⟩] false) c9_13) c9_12)
def c9_11 : C := .ret
def c9_10 : C := (.keep [6] c9_11)
def c9_9 : C := (.cond (.t 52) (.seq (.region [
      ⟨(some 53), (.pure .mov), [.t 9], none⟩,
      ⟨(some 54), (.pure .mov), [.t 2], none⟩,
      ⟨(some 55), .callv, [.t 53, .t 4, .t 54], none⟩,
      ⟨(some 6), (.pure .mov), [.t 55], none⟩] false) c9_10)
    .skip)
def c9_8 : C := (.seq (.region [
      ⟨(some 47), (.pure .mov), [.t 9], none⟩,
      ⟨(some 48), (.pure (.nilEq true .func)), [.t 47], none⟩,
      ⟨(some 49), (.pure .mov), [.t 48], none⟩,
      ⟨(some 50), (.pure .mov), [.t 0], (some (49, true))⟩,
      ⟨(some 51), (.call 39), [.t 50, .t 4], (some (49, true))⟩,
      ⟨(some 52), (.pure .pick), [.t 49, .t 51, .c (.bool false)], none⟩] false) c9_9)
def c9_6 : C := (.seq (.seq (.region [
      ⟨(some 43), (.pure .mov), [.t 7], none⟩,
      ⟨(some 44), (.pure (.fadd 0)), [.t 4], none⟩,
      ⟨(some 45), (.read (.load 1 false) []), [.t 44], none⟩,
      ⟨(some 46), (.read (.lookup (.one .i) .nilFunc false) []), [.t 43, .t 45], none⟩,
      ⟨(some 9), (.pure .mov), [.t 46], none⟩] false) c9_8) c9_7)
def c9_5 : C := (.seq (.region [
      ⟨(some 33), (.alloc .mkmap), [], none⟩,
      ⟨(some 34), (.pure .mov), [.t 0], none⟩,
      ⟨(some 35), (.pure (.func (.func 35) 1)), [.t 34], none⟩,
      ⟨none, (.eff (.mupd (.one .i))), [.t 33, .c (.int .i64 (Int.ofNat 2)), .t 35], none⟩,
      ⟨(some 36), (.pure .mov), [.t 0], none⟩,
      ⟨(some 37), (.pure (.func (.func 36) 1)), [.t 36], none⟩,
      ⟨none, (.eff (.mupd (.one .i))), [.t 33, .c (.int .i64 (Int.ofNat 7)), .t 37], none⟩,
      ⟨(some 38), (.pure .mov), [.t 0], none⟩,
      ⟨(some 39), (.pure (.func (.func 37) 1)), [.t 38], none⟩,
      ⟨none, (.eff (.mupd (.one .i))), [.t 33, .c (.int .i64 (Int.ofNat 9)), .t 39], none⟩,
      ⟨(some 40), (.pure .mov), [.t 0], none⟩,
      ⟨(some 41), (.pure (.func (.func 38) 1)), [.t 40], none⟩,
      ⟨none, (.eff (.mupd (.one .i))), [.t 33, .c (.int .i64 (Int.ofNat 13)), .t 41], none⟩,
      ⟨(some 42), (.pure .mov), [.t 33], none⟩,
      ⟨(some 8), (.pure .mov), [.t 42], none⟩] false) c9_6)
def c9_1 : C := (.seq (.region [
      ⟨(some 19), (.alloc .mkmap), [], none⟩,
      ⟨(some 20), (.pure .mov), [.t 0], none⟩,
      ⟨(some 21), (.pure (.func (.func 29) 1)), [.t 20], none⟩,
      ⟨none, (.eff (.mupd (.one .i))), [.t 19, .c (.int .i64 (Int.ofNat 3)), .t 21], none⟩,
      ⟨(some 22), (.pure .mov), [.t 0], none⟩,
      ⟨(some 23), (.pure (.func (.func 30) 1)), [.t 22], none⟩,
      ⟨none, (.eff (.mupd (.one .i))), [.t 19, .c (.int .i64 (Int.ofNat 4)), .t 23], none⟩,
      ⟨(some 24), (.pure .mov), [.t 0], none⟩,
      ⟨(some 25), (.pure (.func (.func 31) 1)), [.t 24], none⟩,
      ⟨none, (.eff (.mupd (.one .i))), [.t 19, .c (.int .i64 (Int.ofNat 5)), .t 25], none⟩,
      ⟨(some 26), (.pure .mov), [.t 0], none⟩,
      ⟨(some 27), (.pure (.func (.func 32) 1)), [.t 26], none⟩,
      ⟨none, (.eff (.mupd (.one .i))), [.t 19, .c (.int .i64 (Int.ofNat 6)), .t 27], none⟩,
      ⟨(some 28), (.pure .mov), [.t 0], none⟩,
      ⟨(some 29), (.pure (.func (.func 33) 1)), [.t 28], none⟩,
      ⟨none, (.eff (.mupd (.one .i))), [.t 19, .c (.int .i64 (Int.ofNat 11)), .t 29], none⟩,
      ⟨(some 30), (.pure .mov), [.t 0], none⟩,
      ⟨(some 31), (.pure (.func (.func 34) 1)), [.t 30], none⟩,
      ⟨none, (.eff (.mupd (.one .i))), [.t 19, .c (.int .i64 (Int.ofNat 12)), .t 31], none⟩,
      ⟨(some 32), (.pure .mov), [.t 19], none⟩,
      ⟨(some 7), (.pure .mov), [.t 32], none⟩] false) c9_5)
def c9_4 : C := .ret
def c9_3 : C := (.keep [6] c9_4)
def c9_2 : C := (.cond (.t 18) (.seq (.region [
      ⟨(some 6), (.pure .mov), [.c (.slice none 0 0)], none⟩] false) c9_3)
    .skip)
def c9_0 : C := (.seq (.seq (.region [
      ⟨(some 11), (.pure .mov), [.t 0], none⟩,
      ⟨(some 12), (.pure (.nilEq false .ptr)), [.t 11], none⟩,
      ⟨(some 13), (.pure .mov), [.t 12], none⟩,
      ⟨(some 14), (.pure .mov), [.t 0], (some (13, false))⟩,
      ⟨(some 15), (.pure .nilchk), [.t 14], (some (13, false))⟩,
      ⟨(some 16), (.pure (.fadd 13)), [.t 15], (some (13, false))⟩,
      ⟨(some 17), (.read (.load 1 false) []), [.t 16], (some (13, false))⟩,
      ⟨(some 18), (.pure .pick), [.t 13, .c (.bool true), .t 17], none⟩] false) c9_2) c9_1)
def k9 : DFn := ⟨65, (.seq (.region [
      ⟨(some 4), (.alloc .box), [.t 1], none⟩,
      ⟨(some 6), (.pure .mov), [.c (.slice none 0 0)], none⟩] false) c9_0), [.tmp 6]⟩
theorem c9 : (match Tryz.prog.funcs[9]? with | some fn => compileFn Tryz.prog 4 [none, none, none, none, some [6], none, none, none, none, none, none, some [6], none, none, none, none, some [6], none, some [6]] fn | none => none) = some k9 := by kernel_rfl
theorem e9 (tb : Nat → Option DFn) (nv : CallF) (a0 a1 a2 : Value) (H : Heap) (Q : Value → Heap → Prop) : wFn tb nv k9 [a0, a1, a2] H Q = (
    wA .box [a1] H fun x0 H1 =>
    wP (.nilEq false .ptr) [a0] fun x2 =>
    asB x2 fun b3 => onB b3 (atK (Q (.slice none 0 0) H1))
    (wP .nilchk [a0] fun x4 =>
    wP (.fadd 13) [x4] fun x5 =>
    wR (.load 1 false) [x5] H1 fun x6 =>
    asB x6 fun b7 => onB b7 (atK (Q (.slice none 0 0) H1))
    (wA .mkmap [] H1 fun x8 H9 =>
    wP (.func (.func 29) 1) [a0] fun x10 =>
    wE (.mupd (.one .i)) [x8, (.int .i64 3), x10] H9 fun x11 H12 =>
    wP (.func (.func 30) 1) [a0] fun x13 =>
    wE (.mupd (.one .i)) [x8, (.int .i64 4), x13] H12 fun x14 H15 =>
    wP (.func (.func 31) 1) [a0] fun x16 =>
    wE (.mupd (.one .i)) [x8, (.int .i64 5), x16] H15 fun x17 H18 =>
    wP (.func (.func 32) 1) [a0] fun x19 =>
    wE (.mupd (.one .i)) [x8, (.int .i64 6), x19] H18 fun x20 H21 =>
    wP (.func (.func 33) 1) [a0] fun x22 =>
    wE (.mupd (.one .i)) [x8, (.int .i64 11), x22] H21 fun x23 H24 =>
    wP (.func (.func 34) 1) [a0] fun x25 =>
    wE (.mupd (.one .i)) [x8, (.int .i64 12), x25] H24 fun x26 H27 =>
    wA .mkmap [] H27 fun x28 H29 =>
    wP (.func (.func 35) 1) [a0] fun x30 =>
    wE (.mupd (.one .i)) [x28, (.int .i64 2), x30] H29 fun x31 H32 =>
    wP (.func (.func 36) 1) [a0] fun x33 =>
    wE (.mupd (.one .i)) [x28, (.int .i64 7), x33] H32 fun x34 H35 =>
    wP (.func (.func 37) 1) [a0] fun x36 =>
    wE (.mupd (.one .i)) [x28, (.int .i64 9), x36] H35 fun x37 H38 =>
    wP (.func (.func 38) 1) [a0] fun x39 =>
    wE (.mupd (.one .i)) [x28, (.int .i64 13), x39] H38 fun x40 H41 =>
    wP (.fadd 0) [x0] fun x42 =>
    wR (.load 1 false) [x42] H41 fun x43 =>
    wR (.lookup (.one .i) .nilFunc false) [x8, x43] H41 fun x44 =>
    wP (.nilEq true .func) [x44] fun x45 =>
    asB x45 fun b46 => onB b46 (Ev tb nv 39 [a0, x0] H41 fun x47 H48 =>
    asB x47 fun b49 => onB b49 (wIns (Ev tb nv) .callv [x44, x0, a2] H48 fun x50 H51 =>
    atK (Q x50 H51))
    (wP (.fadd 0) [x0] fun x52 =>
    wR (.load 1 false) [x52] H48 fun x53 =>
    wR (.lookup (.one .i) .nilFunc false) [x28, x53] H48 fun x54 =>
    wP (.nilEq true .func) [x54] fun x55 =>
    asB x55 fun b56 => onB b56 (wIns (Ev tb nv) .callv [x54, x0, a2] H48 fun x57 H58 =>
    atK (Q x57 H58))
    (atK (Q (.slice none 0 0) H48))))
    (wP (.fadd 0) [x0] fun x59 =>
    wR (.load 1 false) [x59] H41 fun x60 =>
    wR (.lookup (.one .i) .nilFunc false) [x28, x60] H41 fun x61 =>
    wP (.nilEq true .func) [x61] fun x62 =>
    asB x62 fun b63 => onB b63 (wIns (Ev tb nv) .callv [x61, x0, a2] H41 fun x64 H65 =>
    atK (Q x64 H65))
    (atK (Q (.slice none 0 0) H41)))))) := by kernel_rfl

/-- (*tompion/node.Node).Out -/
def c10_2 : C := .ret
def c10_1 : C := (.keep [2] c10_2)
def c10_0 : C := (.seq (.region [
      ⟨(some 3), (.pure .mov), [.t 0], none⟩,
      ⟨(some 4), (.pure (.nilEq true .ptr)), [.t 3], none⟩,
      ⟨(some 5), (.pure .mov), [.t 4], none⟩,
      ⟨(some 6), (.pure .mov), [.t 0], (some (5, true))⟩,
      ⟨(some 7), (.pure .nilchk), [.t 6], (some (5, true))⟩,
      ⟨(some 8), (.pure (.fadd 13)), [.t 7], (some (5, true))⟩,
      ⟨(some 9), (.read (.load 1 false) []), [.t 8], (some (5, true))⟩,
      ⟨(some 10), (.pure .pick), [.t 5, .t 9, .c (.bool false)], none⟩,
      ⟨(some 2), (.pure .mov), [.t 10], none⟩] false) c10_1)
def k10 : DFn := ⟨11, (.seq (.region [
      ⟨(some 2), (.pure .mov), [.c (.bool false)], none⟩] false) c10_0), [.tmp 2]⟩
theorem c10 : (match Tryz.prog.funcs[10]? with | some fn => compileFn Tryz.prog 4 [none, none, some [2]] fn | none => none) = some k10 := by kernel_rfl


/-- (*tompion/node.Node).Member -/
def c11_6 : C := .ret
def c11_5 : C := (.keep [2] c11_6)
def c11_1 : C := (.seq (.region [
      ⟨(some 6), (.pure .mov), [.t 0], none⟩,
      ⟨(some 7), (.pure .nilchk), [.t 6], none⟩,
      ⟨(some 8), (.pure (.fadd 7)), [.t 7], none⟩,
      ⟨(some 9), (.read (.load 2 true) []), [.t 8], none⟩,
      ⟨none, (.eff (.store 2)), [.t 2, .t 9], none⟩] false) c11_5)
def c11_4 : C := .ret
def c11_3 : C := (.keep [2] c11_4)
def c11_2 : C := (.cond (.t 4) (.seq (.region [
      ⟨(some 5), (.pure (.build [(.int .i64 (Int.ofNat 0)), (.int .i64 (Int.ofNat 0))] [])), [], none⟩,
      ⟨none, (.eff (.store 2)), [.t 2, .t 5], none⟩] false) c11_3)
    .skip)
def c11_0 : C := (.seq (.seq (.region [
      ⟨(some 3), (.pure .mov), [.t 0], none⟩,
      ⟨(some 4), (.pure (.nilEq false .ptr)), [.t 3], none⟩] false) c11_2) c11_1)
def k11 : DFn := ⟨10, (.seq (.region [
      ⟨(some 2), (.alloc (.alloc [(.int .i64 (Int.ofNat 0)), (.int .i64 (Int.ofNat 0))])), [], none⟩] false) c11_0), [.cell 2 2 true]⟩
theorem c11 : (match Tryz.prog.funcs[11]? with | some fn => compileFn Tryz.prog 4 [none, none, none, none, some [2], none, some [2]] fn | none => none) = some k11 := by kernel_rfl
theorem e11 (tb : Nat → Option DFn) (nv : CallF) (a0 : Value) (H : Heap) (Q : Value → Heap → Prop) : wFn tb nv k11 [a0] H Q = (
    wA (.alloc [(.int .i64 0), (.int .i64 0)]) [] H fun x0 H1 =>
    wP (.nilEq false .ptr) [a0] fun x2 =>
    asB x2 fun b3 => onB b3 (wP (.build [(.int .i64 0), (.int .i64 0)] []) [] fun x4 =>
    wE (.store 2) [x0, x4] H1 fun x5 H6 =>
    atK (wR (.load 2 true) [x0] H6 fun x7 =>
    Q x7 H6))
    (wP .nilchk [a0] fun x8 =>
    wP (.fadd 7) [x8] fun x9 =>
    wR (.load 2 true) [x9] H1 fun x10 =>
    wE (.store 2) [x0, x10] H1 fun x11 H12 =>
    atK (wR (.load 2 true) [x0] H12 fun x13 =>
    Q x13 H12))) := by kernel_rfl

/-- (*tompion/node.Node).Config -/
def c12_6 : C := .ret
def c12_5 : C := (.keep [2] c12_6)
def c12_1 : C := (.seq (.region [
      ⟨(some 6), (.pure .mov), [.t 0], none⟩,
      ⟨(some 7), (.pure .nilchk), [.t 6], none⟩,
      ⟨(some 8), (.pure (.fadd 10)), [.t 7], none⟩,
      ⟨(some 9), (.pure (.fadd 0)), [.t 8], none⟩,
      ⟨(some 10), (.read (.load 1 false) [11]), [.t 9], none⟩,
      ⟨(some 11), (.pure .mov), [.t 0], none⟩,
      ⟨(some 12), (.pure .nilchk), [.t 11], none⟩,
      ⟨(some 13), (.pure (.fadd 10)), [.t 12], none⟩,
      ⟨(some 14), (.pure (.fadd 1)), [.t 13], none⟩,
      ⟨(some 15), (.read (.load 1 false) []), [.t 14], none⟩,
      ⟨(some 16), (.call 23), [.t 15], none⟩,
      ⟨(some 17), (.pure (.build [(.int .i64 (Int.ofNat 0)), (.slice none 0 0)] [(0, 1), (1, 1)])), [.t 10, .t 16], none⟩,
      ⟨none, (.eff (.store 2)), [.t 2, .t 17], none⟩] true) c12_5)
def c12_4 : C := .ret
def c12_3 : C := (.keep [2] c12_4)
def c12_2 : C := (.cond (.t 4) (.seq (.region [
      ⟨(some 5), (.pure (.build [(.int .i64 (Int.ofNat 0)), (.slice none 0 0)] [])), [], none⟩,
      ⟨none, (.eff (.store 2)), [.t 2, .t 5], none⟩] false) c12_3)
    .skip)
def c12_0 : C := (.seq (.seq (.region [
      ⟨(some 3), (.pure .mov), [.t 0], none⟩,
      ⟨(some 4), (.pure (.nilEq false .ptr)), [.t 3], none⟩] false) c12_2) c12_1)
def k12 : DFn := ⟨18, (.seq (.region [
      ⟨(some 2), (.alloc (.alloc [(.int .i64 (Int.ofNat 0)), (.slice none 0 0)])), [], none⟩] false) c12_0), [.cell 2 2 true]⟩
theorem c12 : (match Tryz.prog.funcs[12]? with | some fn => compileFn Tryz.prog 4 [none, none, none, none, some [2], none, some [2]] fn | none => none) = some k12 := by kernel_rfl
theorem e12 (tb : Nat → Option DFn) (nv : CallF) (a0 : Value) (H : Heap) (Q : Value → Heap → Prop) : wFn tb nv k12 [a0] H Q = (
    wA (.alloc [(.int .i64 0), (.slice none 0 0)]) [] H fun x0 H1 =>
    wP (.nilEq false .ptr) [a0] fun x2 =>
    asB x2 fun b3 => onB b3 (wP (.build [(.int .i64 0), (.slice none 0 0)] []) [] fun x4 =>
    wE (.store 2) [x0, x4] H1 fun x5 H6 =>
    atK (wR (.load 2 true) [x0] H6 fun x7 =>
    Q x7 H6))
    (wP .nilchk [a0] fun x8 =>
    wP (.fadd 10) [x8] fun x9 =>
    wP (.fadd 0) [x9] fun x10 =>
    wR (.load 1 false) [x10] H1 fun x11 =>
    wP .nilchk [a0] fun x12 =>
    wP (.fadd 10) [x12] fun x13 =>
    wP (.fadd 1) [x13] fun x14 =>
    wR (.load 1 false) [x14] H1 fun x15 =>
    Ev tb nv 23 [x15] H1 fun x16 H17 =>
    wP (.build [(.int .i64 0), (.slice none 0 0)] [(0, 1), (1, 1)]) [x11, x16] fun x18 =>
    wE (.store 2) [x0, x18] H17 fun x19 H20 =>
    wChk [H1, H1, H1, H1, H1, H1, H1, H1, H1, H1, H1, H17, H17, H20] [⟨(.load 1 false), [x10], x11, [11]⟩] (atK (wR (.load 2 true) [x0] H20 fun x21 =>
    Q x21 H20)))) := by kernel_rfl

/-- (*tompion/node.Node).Synced -/
def c13_2 : C := .ret
def c13_1 : C := (.keep [2] c13_2)
def c13_0 : C := (.seq (.region [
      ⟨(some 3), (.pure .mov), [.t 0], none⟩,
      ⟨(some 4), (.pure (.nilEq true .ptr)), [.t 3], none⟩,
      ⟨(some 5), (.pure .mov), [.t 4], none⟩,
      ⟨(some 6), (.pure .mov), [.t 0], (some (5, true))⟩,
      ⟨(some 7), (.pure .nilchk), [.t 6], (some (5, true))⟩,
      ⟨(some 8), (.pure (.fadd 15)), [.t 7], (some (5, true))⟩,
      ⟨(some 9), (.read (.load 1 false) []), [.t 8], (some (5, true))⟩,
      ⟨(some 10), (.pure .pick), [.t 5, .t 9, .c (.bool false)], none⟩,
      ⟨(some 2), (.pure .mov), [.t 10], none⟩] false) c13_1)
def k13 : DFn := ⟨11, (.seq (.region [
      ⟨(some 2), (.pure .mov), [.c (.bool false)], none⟩] false) c13_0), [.tmp 2]⟩
theorem c13 : (match Tryz.prog.funcs[13]? with | some fn => compileFn Tryz.prog 4 [none, none, some [2]] fn | none => none) = some k13 := by kernel_rfl


/-- (*tompion/node.Node).Done -/
def c14_6 : C := .ret
def c14_5 : C := (.keep [2] c14_6)
def c14_1 : C := (.seq (.region [
      ⟨(some 5), (.pure .mov), [.t 0], none⟩,
      ⟨(some 6), (.pure .nilchk), [.t 5], none⟩,
      ⟨(some 7), (.pure (.fadd 17)), [.t 6], none⟩,
      ⟨(some 8), (.read (.load 1 false) []), [.t 7], none⟩,
      ⟨(some 2), (.pure .mov), [.t 8], none⟩] false) c14_5)
def c14_4 : C := .ret
def c14_3 : C := (.keep [2] c14_4)
def c14_2 : C := (.cond (.t 4) (.seq (.region [
      ⟨(some 2), (.pure .mov), [.c (.int .i64 (Int.ofNat 0))], none⟩] false) c14_3)
    .skip)
def c14_0 : C := (.seq (.seq (.region [
      ⟨(some 3), (.pure .mov), [.t 0], none⟩,
      ⟨(some 4), (.pure (.nilEq false .ptr)), [.t 3], none⟩] false) c14_2) c14_1)
def k14 : DFn := ⟨9, (.seq (.region [
      ⟨(some 2), (.pure .mov), [.c (.int .i64 (Int.ofNat 0))], none⟩] false) c14_0), [.tmp 2]⟩
theorem c14 : (match Tryz.prog.funcs[14]? with | some fn => compileFn Tryz.prog 4 [none, none, none, none, some [2], none, some [2]] fn | none => none) = some k14 := by kernel_rfl


end Go.Proofs.YtdpbbppjjjhnoaaGreatDoor.D
