/- The compiled functions of the seat, as the machine "D" runs them, and what each comes to (written by a program). No statement of the seat is proved in this text. -/
import Derived.Test.YtfflfehfjgkcdaaDz
import Derived.Test.YtfflfehfjgkcdaaProg
set_option maxRecDepth 100000
set_option linter.unusedVariables false
namespace Go.Proofs.Ytfflfehfjgkcdaa.D
open Go
/-- gosem.cut.init -/

def k2 : DFn := ⟨1, (.region [
      ⟨(some 0), (.call 1), [], none⟩] false), []⟩
theorem c2 : (match Try.prog.funcs[2]? with | some fn => compileFn Try.prog 0 [] fn | none => none) = some k2 := by kernel_rfl
theorem e2 (tb : Nat → Option DFn) (nv : CallF) (H : Heap) (Q : Value → Heap → Prop) : wFn tb nv k2 [] H Q = (
    Ev tb nv 1 [] H fun x0 H1 =>
    Q (.tuple ⟨[]⟩) H1) := by kernel_rfl

/-- tompion/tompionlaw17.ClientReqs -/
def c3_47 : C := .ret
def c3_46 : C := (.keep [4] c3_47)
def c3_45 : C := (.seq (.region [
      ⟨(some 4), (.pure .mov), [.c (.bool true)], none⟩] false) c3_46)
def c3_7 : C := (.keep [] c3_45)
def c3_44 : C := .skip
def c3_10 : C := (.keep [1, 5, 7, 42, 43, 44] c3_44)
def c3_43 : C := (.region [
      ⟨(some 147), (.pure (.bin .add)), [.t 44, .c (.int .i64 (Int.ofNat 1))], none⟩,
      ⟨(some 44), (.pure .mov), [.t 147], none⟩] false)
def c3_14 : C := (.keep [1, 5, 7, 42, 43, 44] c3_43)
def c3_42 : C := .ret
def c3_41 : C := (.keep [4] c3_42)
def c3_40 : C := (.cond (.t 146) (.seq (.region [
      ⟨(some 4), (.pure .mov), [.c (.bool false)], none⟩] false) c3_41)
    .skip)
def c3_39 : C := (.seq (.region [
      ⟨(some 127), (.pure .mov), [.t 16], none⟩,
      ⟨(some 128), (.pure (.un .not)), [.t 127], none⟩,
      ⟨(some 129), (.pure .mov), [.t 128], none⟩,
      ⟨(some 130), (.pure (.fadd 1)), [.t 15], (some (129, false))⟩,
      ⟨(some 131), (.read (.load 1 false) []), [.t 130], (some (129, false))⟩,
      ⟨(some 132), (.pure .mov), [.t 7], (some (129, false))⟩,
      ⟨(some 133), (.pure (.bin .neq)), [.t 131, .t 132], (some (129, false))⟩,
      ⟨(some 134), (.pure .pick), [.t 129, .c (.bool true), .t 133], none⟩,
      ⟨(some 135), (.pure .mov), [.t 134], none⟩,
      ⟨(some 136), (.pure (.fadd 12)), [.t 15], (some (135, false))⟩,
      ⟨(some 137), (.read (.load 1 false) []), [.t 136], (some (135, false))⟩,
      ⟨(some 138), (.pure .mov), [.t 8], (some (135, false))⟩,
      ⟨(some 139), (.pure (.bin .neq)), [.t 137, .t 138], (some (135, false))⟩,
      ⟨(some 140), (.pure .pick), [.t 135, .c (.bool true), .t 139], none⟩,
      ⟨(some 141), (.pure .mov), [.t 140], none⟩,
      ⟨(some 142), (.pure (.fadd 4)), [.t 15], (some (141, false))⟩,
      ⟨(some 143), (.read (.load 5 true) []), [.t 142], (some (141, false))⟩,
      ⟨(some 144), (.read (.load 5 true) []), [.t 9], (some (141, false))⟩,
      ⟨(some 145), (.pure (.aggEq true [.i, .i, .i, .i, .s])), [.t 143, .t 144], (some (141, false))⟩,
      ⟨(some 146), (.pure .pick), [.t 141, .c (.bool true), .t 145], none⟩] false) c3_40)
def c3_38 : C := (.seq (.region [
      ⟨(some 123), (.pure .mov), [.t 5], none⟩,
      ⟨(some 124), (.call 13), [.t 123], none⟩,
      ⟨(some 122), (.pure .mov), [.t 124], none⟩,
      ⟨(some 125), (.pure (.extract 0)), [.t 122], none⟩,
      ⟨(some 126), (.pure (.extract 1)), [.t 122], none⟩,
      ⟨(some 15), (.alloc (.alloc [(.int .i64 (Int.ofNat 0)), (.int .i64 (Int.ofNat 0)), (.int .i64 (Int.ofNat 0)), (.int .i64 (Int.ofNat 0)), (.int .i64 (Int.ofNat 0)), (.int .i64 (Int.ofNat 0)), (.int .i64 (Int.ofNat 0)), (.int .i64 (Int.ofNat 0)), (.string ⟨⟨[]⟩⟩), (.int .i64 (Int.ofNat 0)), (.int .i64 (Int.ofNat 0)), (.int .i64 (Int.ofNat 0)), (.int .i64 (Int.ofNat 0))])), [], none⟩,
      ⟨none, (.eff (.store 13)), [.t 15, .t 125], none⟩,
      ⟨(some 16), (.pure .mov), [.t 126], none⟩] false) c3_39)
def c3_33 : C := (.seq (.region [
      ⟨(some 116), (.pure .mov), [.t 5], none⟩,
      ⟨(some 117), (.pure .mov), [.t 12], none⟩,
      ⟨(some 118), (.pure .mov), [.t 7], none⟩,
      ⟨(some 119), (.pure .mov), [.t 8], none⟩,
      ⟨(some 120), (.pure (.build [(.int .i64 (Int.ofNat 0)), (.int .i64 (Int.ofNat 0)), (.int .i64 (Int.ofNat 0)), (.int .i64 (Int.ofNat 0)), (.int .i64 (Int.ofNat 0)), (.int .i64 (Int.ofNat 0)), (.int .i64 (Int.ofNat 0)), (.int .i64 (Int.ofNat 0)), (.int .i64 (Int.ofNat 0)), (.int .i64 (Int.ofNat 0)), (.bool false), (.int .i64 (Int.ofNat 0)), (.int .i64 (Int.ofNat 0)), (.int .i64 (Int.ofNat 0)), (.int .i64 (Int.ofNat 0)), (.int .i64 (Int.ofNat 0)), (.int .i64 (Int.ofNat 0)), (.int .i64 (Int.ofNat 0)), (.int .i64 (Int.ofNat 0)), (.int .i64 (Int.ofNat 0)), (.string ⟨⟨[]⟩⟩), (.int .i64 (Int.ofNat 0)), (.int .i64 (Int.ofNat 0)), (.int .i64 (Int.ofNat 0)), (.int .i64 (Int.ofNat 0)), (.slice none 0 0), (.slice none 0 0), (.int .i64 (Int.ofNat 0))] [(0, 1), (1, 1), (6, 1), (5, 1)])), [.t 117, .c (.int .i64 (Int.ofNat 103)), .t 118, .t 119], none⟩,
      ⟨(some 121), (.call 11), [.t 116, .t 120, .c (.int .i64 (Int.ofNat 0))], none⟩] false) c3_38)
def c3_37 : C := .ret
def c3_36 : C := (.keep [4] c3_37)
def c3_35 : C := (.cond (.t 115) (.seq (.region [
      ⟨(some 4), (.pure .mov), [.c (.bool false)], none⟩] false) c3_36)
    .skip)
def c3_34 : C := (.seq (.region [
      ⟨(some 109), (.pure .mov), [.t 13], none⟩,
      ⟨(some 110), (.pure .mov), [.t 7], none⟩,
      ⟨(some 111), (.pure (.bin .neq)), [.t 109, .t 110], none⟩,
      ⟨(some 112), (.pure .mov), [.t 111], none⟩,
      ⟨(some 113), (.pure .mov), [.t 14], (some (112, false))⟩,
      ⟨(some 114), (.pure (.un .not)), [.t 113], (some (112, false))⟩,
      ⟨(some 115), (.pure .pick), [.t 112, .c (.bool true), .t 114], none⟩] false) c3_35)
def c3_32 : C := (.seq (.seq (.region [
      ⟨(some 105), (.pure .mov), [.t 5], none⟩,
      ⟨(some 106), (.call 12), [.t 105], none⟩,
      ⟨(some 104), (.pure .mov), [.t 106], none⟩,
      ⟨(some 107), (.pure (.extract 0)), [.t 104], none⟩,
      ⟨(some 108), (.pure (.extract 1)), [.t 104], none⟩,
      ⟨(some 13), (.pure .mov), [.t 107], none⟩,
      ⟨(some 14), (.pure .mov), [.t 108], none⟩] false) c3_34) c3_33)
def c3_29 : C := (.keep [1, 5, 7, 8, 9, 12, 42, 43, 44] c3_32)
def c3_31 : C := (.region [
      ⟨(some 92), (.pure .mov), [.t 5], none⟩,
      ⟨(some 93), (.pure .mov), [.t 12], none⟩,
      ⟨(some 94), (.pure .mov), [.t 7], none⟩,
      ⟨(some 95), (.pure (.bin .sub)), [.t 94, .c (.int .i64 (Int.ofNat 1))], none⟩,
      ⟨(some 96), (.pure .mov), [.t 1], none⟩,
      ⟨(some 97), (.pure .mov), [.t 8], none⟩,
      ⟨(some 98), (.pure (.iaddS 1)), [.t 96, .t 97], none⟩,
      ⟨(some 99), (.read (.load 1 false) []), [.t 98], none⟩,
      ⟨(some 100), (.pure (.conv .i64)), [.t 99], none⟩,
      ⟨(some 101), (.pure (.bin .sub)), [.t 95, .t 100], none⟩,
      ⟨(some 102), (.pure (.build [(.int .i64 (Int.ofNat 0)), (.int .i64 (Int.ofNat 0)), (.int .i64 (Int.ofNat 0)), (.int .i64 (Int.ofNat 0)), (.int .i64 (Int.ofNat 0)), (.int .i64 (Int.ofNat 0)), (.int .i64 (Int.ofNat 0)), (.int .i64 (Int.ofNat 0)), (.int .i64 (Int.ofNat 0)), (.int .i64 (Int.ofNat 0)), (.bool false), (.int .i64 (Int.ofNat 0)), (.int .i64 (Int.ofNat 0)), (.int .i64 (Int.ofNat 0)), (.int .i64 (Int.ofNat 0)), (.int .i64 (Int.ofNat 0)), (.int .i64 (Int.ofNat 0)), (.int .i64 (Int.ofNat 0)), (.int .i64 (Int.ofNat 0)), (.int .i64 (Int.ofNat 0)), (.string ⟨⟨[]⟩⟩), (.int .i64 (Int.ofNat 0)), (.int .i64 (Int.ofNat 0)), (.int .i64 (Int.ofNat 0)), (.int .i64 (Int.ofNat 0)), (.slice none 0 0), (.slice none 0 0), (.int .i64 (Int.ofNat 0))] [(0, 1), (1, 1), (6, 1)])), [.t 93, .c (.int .i64 (Int.ofNat 103)), .t 101], none⟩,
      ⟨(some 103), (.call 11), [.t 92, .t 102, .c (.int .i64 (Int.ofNat 0))], none⟩] false)
def c3_30 : C := (.cond (.t 79) (.seq (.region [
      ⟨(some 80), (.pure .mov), [.t 5], none⟩,
      ⟨(some 81), (.pure .mov), [.t 12], none⟩,
      ⟨(some 82), (.pure .mov), [.t 7], none⟩,
      ⟨(some 83), (.pure (.bin .add)), [.t 82, .c (.int .i64 (Int.ofNat 1))], none⟩,
      ⟨(some 84), (.pure .mov), [.t 1], none⟩,
      ⟨(some 85), (.pure .mov), [.t 8], none⟩,
      ⟨(some 86), (.pure (.iaddS 1)), [.t 84, .t 85], none⟩,
      ⟨(some 87), (.read (.load 1 false) []), [.t 86], none⟩,
      ⟨(some 88), (.pure (.conv .i64)), [.t 87], none⟩,
      ⟨(some 89), (.pure (.bin .add)), [.t 83, .t 88], none⟩,
      ⟨(some 90), (.pure (.build [(.int .i64 (Int.ofNat 0)), (.int .i64 (Int.ofNat 0)), (.int .i64 (Int.ofNat 0)), (.int .i64 (Int.ofNat 0)), (.int .i64 (Int.ofNat 0)), (.int .i64 (Int.ofNat 0)), (.int .i64 (Int.ofNat 0)), (.int .i64 (Int.ofNat 0)), (.int .i64 (Int.ofNat 0)), (.int .i64 (Int.ofNat 0)), (.bool false), (.int .i64 (Int.ofNat 0)), (.int .i64 (Int.ofNat 0)), (.int .i64 (Int.ofNat 0)), (.int .i64 (Int.ofNat 0)), (.int .i64 (Int.ofNat 0)), (.int .i64 (Int.ofNat 0)), (.int .i64 (Int.ofNat 0)), (.int .i64 (Int.ofNat 0)), (.int .i64 (Int.ofNat 0)), (.string ⟨⟨[]⟩⟩), (.int .i64 (Int.ofNat 0)), (.int .i64 (Int.ofNat 0)), (.int .i64 (Int.ofNat 0)), (.int .i64 (Int.ofNat 0)), (.slice none 0 0), (.slice none 0 0), (.int .i64 (Int.ofNat 0))] [(0, 1), (1, 1), (6, 1)])), [.t 81, .c (.int .i64 (Int.ofNat 103)), .t 89], none⟩,
      ⟨(some 91), (.call 11), [.t 80, .t 90, .c (.int .i64 (Int.ofNat 0))], none⟩] false) c3_31)
    .skip)
def c3_28 : C := (.seq (.seq (.region [
      ⟨(some 76), (.pure .mov), [.t 8], none⟩,
      ⟨(some 77), (.pure .mov), [.t 1], none⟩,
      ⟨(some 78), (.pure .lenS), [.t 77], none⟩,
      ⟨(some 79), (.pure (.bin .lss)), [.t 76, .t 78], none⟩] false) c3_30) c3_29)
def c3_26 : C := (.keep [1, 5, 7, 8, 9, 12, 42, 43, 44] c3_28)
def c3_27 : C := (.cond (.t 75) (.region [
      ⟨(some 12), (.pure .mov), [.c (.int .i64 (Int.ofNat 10))], none⟩] false)
    .skip)
def c3_25 : C := (.seq (.seq (.region [
      ⟨(some 73), (.pure (.fadd 0)), [.t 9], none⟩,
      ⟨(some 74), (.read (.load 1 false) []), [.t 73], none⟩,
      ⟨(some 75), (.pure (.bin .eql)), [.t 74, .c (.int .i64 (Int.ofNat 3))], none⟩] false) c3_27) c3_26)
def c3_24 : C := (.seq (.region [
      ⟨(some 12), (.pure .mov), [.c (.int .i64 (Int.ofNat 8))], none⟩] false) c3_25)
def c3_19 : C := (.seq (.region [
      ⟨(some 71), (.pure .mov), [.t 7], none⟩,
      ⟨(some 72), (.pure (.bin .add)), [.t 71, .c (.int .i64 (Int.ofNat 1))], none⟩,
      ⟨(some 7), (.pure .mov), [.t 72], none⟩] false) c3_24)
def c3_23 : C := .ret
def c3_22 : C := (.keep [4] c3_23)
def c3_21 : C := (.cond (.t 70) (.seq (.region [
      ⟨(some 4), (.pure .mov), [.c (.bool false)], none⟩] false) c3_22)
    .skip)
def c3_20 : C := (.seq (.region [
      ⟨(some 69), (.pure .mov), [.t 11], none⟩,
      ⟨(some 70), (.pure (.bin .neq)), [.t 69, .c (.int .i64 (Int.ofNat 0))], none⟩] false) c3_21)
def c3_16 : C := (.seq (.seq (.region [
      ⟨(some 64), (.pure .mov), [.t 5], none⟩,
      ⟨(some 65), (.read (.load 5 true) []), [.t 9], none⟩,
      ⟨(some 66), (.call 10), [.t 64, .t 65, .c (.int .i64 (Int.ofNat 0))], none⟩,
      ⟨(some 63), (.pure .mov), [.t 66], none⟩,
      ⟨(some 67), (.pure (.extract 0)), [.t 63], none⟩,
      ⟨(some 68), (.pure (.extract 1)), [.t 63], none⟩,
      ⟨(some 10), (.pure .mov), [.t 67], none⟩,
      ⟨(some 11), (.pure .mov), [.t 68], none⟩] false) c3_20) c3_19)
def c3_18 : C := (.exit 1)
def c3_17 : C := (.cond (.t 62) (.keep [1, 5, 7, 42, 43, 44] c3_18)
    .skip)
def c3_15 : C := (.seq (.seq (.region [
      ⟨(some 49), (.pure (.fadd 4)), [.t 9], none⟩,
      ⟨(some 50), (.read (.load 1 false) []), [.t 49], none⟩,
      ⟨(some 51), (.pure .lenStr), [.t 50], none⟩,
      ⟨(some 52), (.pure (.bin .gtr)), [.t 51, .c (.int .i64 (Int.ofNat 256))], none⟩,
      ⟨(some 53), (.pure .mov), [.t 52], none⟩,
      ⟨(some 54), (.pure (.fadd 0)), [.t 9], (some (53, false))⟩,
      ⟨(some 55), (.read (.load 1 false) []), [.t 54], (some (53, false))⟩,
      ⟨(some 56), (.pure (.bin .lss)), [.t 55, .c (.int .i64 (Int.ofNat 1))], (some (53, false))⟩,
      ⟨(some 57), (.pure .pick), [.t 53, .c (.bool true), .t 56], none⟩,
      ⟨(some 58), (.pure .mov), [.t 57], none⟩,
      ⟨(some 59), (.pure (.fadd 0)), [.t 9], (some (58, false))⟩,
      ⟨(some 60), (.read (.load 1 false) []), [.t 59], (some (58, false))⟩,
      ⟨(some 61), (.pure (.bin .gtr)), [.t 60, .c (.int .i64 (Int.ofNat 3))], (some (58, false))⟩,
      ⟨(some 62), (.pure .pick), [.t 58, .c (.bool true), .t 61], none⟩] false) c3_17) c3_16)
def c3_12 : C := (.seq (.block 1 (.seq (.region [
      ⟨(some 46), (.pure .mov), [.t 44], none⟩,
      ⟨(some 47), (.pure (.iaddS 5)), [.t 42, .t 44], none⟩,
      ⟨(some 48), (.read (.load 5 true) []), [.t 47], none⟩,
      ⟨(some 9), (.alloc (.alloc [(.int .i64 (Int.ofNat 0)), (.int .i64 (Int.ofNat 0)), (.int .i64 (Int.ofNat 0)), (.int .i64 (Int.ofNat 0)), (.string ⟨⟨[]⟩⟩)])), [], none⟩,
      ⟨(some 8), (.pure .mov), [.t 46], none⟩,
      ⟨none, (.eff (.store 5)), [.t 9, .t 48], none⟩] false) c3_15)) c3_14)
def c3_13 : C := (.exit 0)
def c3_11 : C := (.seq (.cond (.t 45) .skip
    (.keep [] c3_13)) c3_12)
def c3_9 : C := (.seq (.seq (.region [
      ⟨(some 45), (.pure (.bin .lss)), [.t 44, .t 43], none⟩] false) c3_11) c3_10)
def c3_8 : C := (.block 0 (.loop (some [1, 5, 7, 42, 43, 44]) c3_9))
def c3_6 : C := (.seq (.seq (.region [
      ⟨(some 42), (.pure .mov), [.t 0], none⟩,
      ⟨(some 43), (.pure .lenS), [.t 42], none⟩,
      ⟨(some 44), (.pure .mov), [.c (.int .i64 (Int.ofNat 0))], none⟩] false) c3_8) c3_7)
def c3_2 : C := (.seq (.region [
      ⟨(some 7), (.pure .mov), [.c (.int .i64 (Int.ofNat 0))], none⟩] false) c3_6)
def c3_5 : C := .ret
def c3_4 : C := (.keep [4] c3_5)
def c3_3 : C := (.cond (.t 36) (.seq (.region [
      ⟨(some 37), (.call 9), [], none⟩,
      ⟨(some 38), (.pure .mov), [.t 37], none⟩,
      ⟨(some 39), (.pure .mov), [.t 6], (some (38, true))⟩,
      ⟨(some 40), (.pure (.bin .eql)), [.t 39, .c (.int .i64 (Int.ofNat 0))], (some (38, true))⟩,
      ⟨(some 41), (.pure .pick), [.t 38, .t 40, .c (.bool false)], none⟩,
      ⟨(some 4), (.pure .mov), [.t 41], none⟩] false) c3_4)
    .skip)
def c3_1 : C := (.seq (.seq (.region [
      ⟨(some 21), (.call 9), [], none⟩,
      ⟨(some 22), (.pure (.un .not)), [.t 21], none⟩,
      ⟨(some 23), (.pure .mov), [.t 22], none⟩,
      ⟨(some 24), (.pure .mov), [.t 6], (some (23, false))⟩,
      ⟨(some 25), (.pure (.bin .neq)), [.t 24, .c (.int .i64 (Int.ofNat 0))], (some (23, false))⟩,
      ⟨(some 26), (.pure .pick), [.t 23, .c (.bool true), .t 25], none⟩,
      ⟨(some 27), (.pure .mov), [.t 26], none⟩,
      ⟨(some 28), (.pure .mov), [.t 0], (some (27, false))⟩,
      ⟨(some 29), (.pure .lenS), [.t 28], (some (27, false))⟩,
      ⟨(some 30), (.pure (.bin .gtr)), [.t 29, .c (.int .i64 (Int.ofNat 100))], (some (27, false))⟩,
      ⟨(some 31), (.pure .pick), [.t 27, .c (.bool true), .t 30], none⟩,
      ⟨(some 32), (.pure .mov), [.t 31], none⟩,
      ⟨(some 33), (.pure .mov), [.t 1], (some (32, false))⟩,
      ⟨(some 34), (.pure .lenS), [.t 33], (some (32, false))⟩,
      ⟨(some 35), (.pure (.bin .gtr)), [.t 34, .c (.int .i64 (Int.ofNat 200))], (some (32, false))⟩,
      ⟨(some 36), (.pure .pick), [.t 32, .c (.bool true), .t 35], none⟩] false) c3_3) c3_2)
def c3_0 : C := (.seq (.region [
      ⟨(some 18), (.call 8), [.c (.int .i64 (Int.ofNat 103))], none⟩,
      ⟨(some 17), (.pure .mov), [.t 18], none⟩,
      ⟨(some 19), (.pure (.extract 0)), [.t 17], none⟩,
      ⟨(some 20), (.pure (.extract 1)), [.t 17], none⟩,
      ⟨(some 5), (.pure .mov), [.t 19], none⟩,
      ⟨(some 6), (.pure .mov), [.t 20], none⟩] false) c3_1)
def k3 : DFn := ⟨148, (.seq (.region [
      ⟨(some 4), (.pure .mov), [.c (.bool false)], none⟩] false) c3_0), [.tmp 4]⟩
theorem c3 : (match Try.prog.funcs[3]? with | some fn => compileFn Try.prog 0 [none, none, none, none, none, some [4], none, some [], none, some [1, 5, 7, 42, 43, 44], none, none, some [], some [1, 5, 7, 42, 43, 44], none, none, none, some [1, 5, 7, 42, 43, 44], none, none, none, none, some [4], none, none, some [1, 5, 7, 8, 9, 12, 42, 43, 44], none, some [1, 5, 7, 8, 9, 12, 42, 43, 44], none, none, none, none, none, none, some [4], none, none, none, none, some [4], none, some [4]] fn | none => none) = some k3 := by kernel_rfl
def q3_0 (tb : Nat → Option DFn) (nv : CallF) (Q : Value → Heap → Prop) : Kont := kSeq (fun wf H => wC tb nv c3_7 wf H (kFn [.tmp 4] Q)) (kFn [.tmp 4] Q)
def q3_1 (tb : Nat → Option DFn) (nv : CallF) (Q : Value → Heap → Prop) : Kont := kBlk 0 (q3_0 tb nv Q)
def q3_2 (tb : Nat → Option DFn) (nv : CallF) (K : Kont) : Kont := kSeq (fun wf H => wC tb nv c3_10 wf H K) K
def q3_3 (tb : Nat → Option DFn) (nv : CallF) (K : Kont) : Kont := kSeq (fun wf H => wC tb nv c3_14 wf H (q3_2 tb nv K)) (q3_2 tb nv K)
def q3_4 (tb : Nat → Option DFn) (nv : CallF) (K : Kont) : Kont := kBlk 1 (q3_3 tb nv K)
def w3_43 (tb : Nat → Option DFn) (nv : CallF) (t1 t5 t7 t42 t43 t44 : Value) (H : Heap) (K : Kont) : Prop := wC tb nv c3_43 (mkW [(1, t1), (5, t5), (7, t7), (42, t42), (43, t43), (44, t44)]) H (q3_2 tb nv K)
def w3_28 (tb : Nat → Option DFn) (nv : CallF) (t1 t5 t7 t8 t9 t12 t42 t43 t44 : Value) (H : Heap) (K : Kont) : Prop := wC tb nv c3_28 (mkW [(1, t1), (5, t5), (7, t7), (8, t8), (9, t9), (12, t12), (42, t42), (43, t43), (44, t44)]) H (q3_4 tb nv K)
def w3_45 (tb : Nat → Option DFn) (nv : CallF) (H : Heap) (Q : Value → Heap → Prop) : Prop := wC tb nv c3_45 (mkW []) H (kFn [.tmp 4] Q)
def w3_32 (tb : Nat → Option DFn) (nv : CallF) (t1 t5 t7 t8 t9 t12 t42 t43 t44 : Value) (H : Heap) (K : Kont) : Prop := wC tb nv c3_32 (mkW [(1, t1), (5, t5), (7, t7), (8, t8), (9, t9), (12, t12), (42, t42), (43, t43), (44, t44)]) H (q3_4 tb nv K)
theorem e3 (tb : Nat → Option DFn) (nv : CallF) (a0 a1 : Value) (H : Heap) (Q : Value → Heap → Prop) : wFn tb nv k3 [a0, a1] H Q = (
    Ev tb nv 8 [(.int .i64 103)] H fun x0 H1 =>
    wP (.extract 0) [x0] fun x2 =>
    wP (.extract 1) [x0] fun x3 =>
    Ev tb nv 9 [] H1 fun x4 H5 =>
    wP (.un .not) [x4] fun x6 =>
    asB x6 fun b7 => onB b7 (Ev tb nv 9 [] H5 fun x8 H9 =>
    asB x8 fun b10 => onB b10 (wP (.bin .eql) [x3, (.int .i64 0)] fun x11 =>
    atK (Q x11 H9))
    (atK (Q (.bool false) H9)))
    (wP (.bin .neq) [x3, (.int .i64 0)] fun x12 =>
    asB x12 fun b13 => onB b13 (Ev tb nv 9 [] H5 fun x14 H15 =>
    asB x14 fun b16 => onB b16 (wP (.bin .eql) [x3, (.int .i64 0)] fun x17 =>
    atK (Q x17 H15))
    (atK (Q (.bool false) H15)))
    (wP .lenS [a0] fun x18 =>
    wP (.bin .gtr) [x18, (.int .i64 100)] fun x19 =>
    asB x19 fun b20 => onB b20 (Ev tb nv 9 [] H5 fun x21 H22 =>
    asB x21 fun b23 => onB b23 (wP (.bin .eql) [x3, (.int .i64 0)] fun x24 =>
    atK (Q x24 H22))
    (atK (Q (.bool false) H22)))
    (wP .lenS [a1] fun x25 =>
    wP (.bin .gtr) [x25, (.int .i64 200)] fun x26 =>
    asB x26 fun b27 => onB b27 (Ev tb nv 9 [] H5 fun x28 H29 =>
    asB x28 fun b30 => onB b30 (wP (.bin .eql) [x3, (.int .i64 0)] fun x31 =>
    atK (Q x31 H29))
    (atK (Q (.bool false) H29)))
    (wP .lenS [a0] fun x32 =>
    wLoop tb nv c3_9 [1, 5, 7, 42, 43, 44] (mkW [(1, a1), (5, x2), (7, (.int .i64 0)), (42, a0), (43, x32), (44, (.int .i64 0))]) H5 (q3_1 tb nv Q)))))) := by kernel_rfl
theorem l3_9 (tb : Nat → Option DFn) (nv : CallF) (t1 t5 t7 t42 t43 t44 : Value) (H : Heap) (K : Kont) : wC tb nv c3_9 (mkW [(1, t1), (5, t5), (7, t7), (42, t42), (43, t43), (44, t44)]) H K = (
    wP (.bin .lss) [t44, t43] fun x33 =>
    asB x33 fun b34 => onB b34 (wP (.iaddS 5) [t42, t44] fun x35 =>
    wR (.load 5 true) [x35] H fun x36 =>
    wA (.alloc [(.int .i64 0), (.int .i64 0), (.int .i64 0), (.int .i64 0), (.string ⟨⟨[]⟩⟩)]) [] H fun x37 H38 =>
    wE (.store 5) [x37, x36] H38 fun x39 H40 =>
    wP (.fadd 4) [x37] fun x41 =>
    wR (.load 1 false) [x41] H40 fun x42 =>
    wP .lenStr [x42] fun x43 =>
    wP (.bin .gtr) [x43, (.int .i64 256)] fun x44 =>
    asB x44 fun b45 => onB b45 (atK (atK (w3_43 tb nv t1 t5 t7 t42 t43 t44 H40 K)))
    (wP (.fadd 0) [x37] fun x46 =>
    wR (.load 1 false) [x46] H40 fun x47 =>
    wP (.bin .lss) [x47, (.int .i64 1)] fun x48 =>
    asB x48 fun b49 => onB b49 (atK (atK (w3_43 tb nv t1 t5 t7 t42 t43 t44 H40 K)))
    (wP (.fadd 0) [x37] fun x50 =>
    wR (.load 1 false) [x50] H40 fun x51 =>
    wP (.bin .gtr) [x51, (.int .i64 3)] fun x52 =>
    asB x52 fun b53 => onB b53 (atK (atK (w3_43 tb nv t1 t5 t7 t42 t43 t44 H40 K)))
    (wR (.load 5 true) [x37] H40 fun x54 =>
    Ev tb nv 10 [t5, x54, (.int .i64 0)] H40 fun x55 H56 =>
    wP (.extract 0) [x55] fun x57 =>
    wP (.extract 1) [x55] fun x58 =>
    wP (.bin .neq) [x58, (.int .i64 0)] fun x59 =>
    asB x59 fun b60 => onB b60 (atK (K .ret (mkW [(4, (.bool false))]) H56))
    (wP (.bin .add) [t7, (.int .i64 1)] fun x61 =>
    wP (.fadd 0) [x37] fun x62 =>
    wR (.load 1 false) [x62] H56 fun x63 =>
    wP (.bin .eql) [x63, (.int .i64 3)] fun x64 =>
    asB x64 fun b65 => onB b65 (atK (w3_28 tb nv t1 t5 x61 t44 x37 (.int .i64 10) t42 t43 t44 H56 K))
    (atK (w3_28 tb nv t1 t5 x61 t44 x37 (.int .i64 8) t42 t43 t44 H56 K)))))))
    (atK (K (.exit 0) (mkW []) H))) := by kernel_rfl
theorem x3_9_0 (tb : Nat → Option DFn) (nv : CallF) (t4 : Value) (H : Heap) (Q : Value → Heap → Prop) : (q3_1 tb nv Q) .ret (mkW [(4, t4)]) H = (
    Q t4 H) := by kernel_rfl
theorem x3_9_1 (tb : Nat → Option DFn) (nv : CallF) (H : Heap) (Q : Value → Heap → Prop) : (q3_1 tb nv Q) (.exit 0) (mkW []) H = (
    atK (w3_45 tb nv  H Q)) := by kernel_rfl
theorem e3_43 (tb : Nat → Option DFn) (nv : CallF) (t1 t5 t7 t42 t43 t44 : Value) (H : Heap) (K : Kont) : w3_43 tb nv t1 t5 t7 t42 t43 t44 H K = (
    wP (.bin .add) [t44, (.int .i64 1)] fun x66 =>
    atK (K .normal (mkW [(1, t1), (5, t5), (7, t7), (42, t42), (43, t43), (44, x66)]) H)) := by kernel_rfl
theorem e3_28 (tb : Nat → Option DFn) (nv : CallF) (t1 t5 t7 t8 t9 t12 t42 t43 t44 : Value) (H : Heap) (K : Kont) : w3_28 tb nv t1 t5 t7 t8 t9 t12 t42 t43 t44 H K = (
    wP .lenS [t1] fun x67 =>
    wP (.bin .lss) [t8, x67] fun x68 =>
    asB x68 fun b69 => onB b69 (wP (.bin .add) [t7, (.int .i64 1)] fun x70 =>
    wP (.iaddS 1) [t1, t8] fun x71 =>
    wR (.load 1 false) [x71] H fun x72 =>
    wP (.conv .i64) [x72] fun x73 =>
    wP (.bin .add) [x70, x73] fun x74 =>
    wP (.build [(.int .i64 0), (.int .i64 0), (.int .i64 0), (.int .i64 0), (.int .i64 0), (.int .i64 0), (.int .i64 0), (.int .i64 0), (.int .i64 0), (.int .i64 0), (.bool false), (.int .i64 0), (.int .i64 0), (.int .i64 0), (.int .i64 0), (.int .i64 0), (.int .i64 0), (.int .i64 0), (.int .i64 0), (.int .i64 0), (.string ⟨⟨[]⟩⟩), (.int .i64 0), (.int .i64 0), (.int .i64 0), (.int .i64 0), (.slice none 0 0), (.slice none 0 0), (.int .i64 0)] [(0, 1), (1, 1), (6, 1)]) [t12, (.int .i64 103), x74] fun x75 =>
    Ev tb nv 11 [t5, x75, (.int .i64 0)] H fun x76 H77 =>
    wP (.bin .sub) [t7, (.int .i64 1)] fun x78 =>
    wP (.iaddS 1) [t1, t8] fun x79 =>
    wR (.load 1 false) [x79] H77 fun x80 =>
    wP (.conv .i64) [x80] fun x81 =>
    wP (.bin .sub) [x78, x81] fun x82 =>
    wP (.build [(.int .i64 0), (.int .i64 0), (.int .i64 0), (.int .i64 0), (.int .i64 0), (.int .i64 0), (.int .i64 0), (.int .i64 0), (.int .i64 0), (.int .i64 0), (.bool false), (.int .i64 0), (.int .i64 0), (.int .i64 0), (.int .i64 0), (.int .i64 0), (.int .i64 0), (.int .i64 0), (.int .i64 0), (.int .i64 0), (.string ⟨⟨[]⟩⟩), (.int .i64 0), (.int .i64 0), (.int .i64 0), (.int .i64 0), (.slice none 0 0), (.slice none 0 0), (.int .i64 0)] [(0, 1), (1, 1), (6, 1)]) [t12, (.int .i64 103), x82] fun x83 =>
    Ev tb nv 11 [t5, x83, (.int .i64 0)] H77 fun x84 H85 =>
    atK (w3_32 tb nv t1 t5 t7 t8 t9 t12 t42 t43 t44 H85 K))
    (atK (w3_32 tb nv t1 t5 t7 t8 t9 t12 t42 t43 t44 H K))) := by kernel_rfl
theorem e3_45 (tb : Nat → Option DFn) (nv : CallF) (H : Heap) (Q : Value → Heap → Prop) : w3_45 tb nv  H Q = (
    atK (Q (.bool true) H)) := by kernel_rfl
theorem e3_32 (tb : Nat → Option DFn) (nv : CallF) (t1 t5 t7 t8 t9 t12 t42 t43 t44 : Value) (H : Heap) (K : Kont) : w3_32 tb nv t1 t5 t7 t8 t9 t12 t42 t43 t44 H K = (
    Ev tb nv 12 [t5] H fun x86 H87 =>
    wP (.extract 0) [x86] fun x88 =>
    wP (.extract 1) [x86] fun x89 =>
    wP (.bin .neq) [x88, t7] fun x90 =>
    asB x90 fun b91 => onB b91 (atK (K .ret (mkW [(4, (.bool false))]) H87))
    (wP (.un .not) [x89] fun x92 =>
    asB x92 fun b93 => onB b93 (atK (K .ret (mkW [(4, (.bool false))]) H87))
    (wP (.build [(.int .i64 0), (.int .i64 0), (.int .i64 0), (.int .i64 0), (.int .i64 0), (.int .i64 0), (.int .i64 0), (.int .i64 0), (.int .i64 0), (.int .i64 0), (.bool false), (.int .i64 0), (.int .i64 0), (.int .i64 0), (.int .i64 0), (.int .i64 0), (.int .i64 0), (.int .i64 0), (.int .i64 0), (.int .i64 0), (.string ⟨⟨[]⟩⟩), (.int .i64 0), (.int .i64 0), (.int .i64 0), (.int .i64 0), (.slice none 0 0), (.slice none 0 0), (.int .i64 0)] [(0, 1), (1, 1), (6, 1), (5, 1)]) [t12, (.int .i64 103), t7, t8] fun x94 =>
    Ev tb nv 11 [t5, x94, (.int .i64 0)] H87 fun x95 H96 =>
    Ev tb nv 13 [t5] H96 fun x97 H98 =>
    wP (.extract 0) [x97] fun x99 =>
    wP (.extract 1) [x97] fun x100 =>
    wA (.alloc [(.int .i64 0), (.int .i64 0), (.int .i64 0), (.int .i64 0), (.int .i64 0), (.int .i64 0), (.int .i64 0), (.int .i64 0), (.string ⟨⟨[]⟩⟩), (.int .i64 0), (.int .i64 0), (.int .i64 0), (.int .i64 0)]) [] H98 fun x101 H102 =>
    wE (.store 13) [x101, x99] H102 fun x103 H104 =>
    wP (.un .not) [x100] fun x105 =>
    asB x105 fun b106 => onB b106 (atK (K .ret (mkW [(4, (.bool false))]) H104))
    (wP (.fadd 1) [x101] fun x107 =>
    wR (.load 1 false) [x107] H104 fun x108 =>
    wP (.bin .neq) [x108, t7] fun x109 =>
    asB x109 fun b110 => onB b110 (atK (K .ret (mkW [(4, (.bool false))]) H104))
    (wP (.fadd 12) [x101] fun x111 =>
    wR (.load 1 false) [x111] H104 fun x112 =>
    wP (.bin .neq) [x112, t8] fun x113 =>
    asB x113 fun b114 => onB b114 (atK (K .ret (mkW [(4, (.bool false))]) H104))
    (wP (.fadd 4) [x101] fun x115 =>
    wR (.load 5 true) [x115] H104 fun x116 =>
    wR (.load 5 true) [t9] H104 fun x117 =>
    wP (.aggEq true [.i, .i, .i, .i, .s]) [x116, x117] fun x118 =>
    asB x118 fun b119 => onB b119 (atK (K .ret (mkW [(4, (.bool false))]) H104))
    (atK (w3_43 tb nv t1 t5 t7 t42 t43 t44 H104 K)))))))) := by kernel_rfl

/-- tompion/tompionlaw17.ClientCursor -/
def c4_81 : C := .ret
def c4_80 : C := (.keep [4] c4_81)
def c4_79 : C := (.seq (.region [
      ⟨(some 4), (.pure .mov), [.c (.bool true)], none⟩] false) c4_80)
def c4_19 : C := (.keep [] c4_79)
def c4_78 : C := .skip
def c4_22 : C := (.keep [5, 7, 69, 70, 71] c4_78)
def c4_77 : C := (.region [
      ⟨(some 157), (.pure (.bin .add)), [.t 71, .c (.int .i64 (Int.ofNat 1))], none⟩,
      ⟨(some 71), (.pure .mov), [.t 157], none⟩] false)
def c4_26 : C := (.keep [5, 7, 69, 70, 71] c4_77)
def c4_76 : C := .skip
def c4_51 : C := (.keep [5, 7, 17, 69, 70, 71, 125, 126, 127] c4_76)
def c4_75 : C := (.region [
      ⟨(some 156), (.pure (.bin .add)), [.t 127, .c (.int .i64 (Int.ofNat 1))], none⟩,
      ⟨(some 127), (.pure .mov), [.t 156], none⟩] false)
def c4_55 : C := (.keep [5, 7, 17, 69, 70, 71, 125, 126, 127] c4_75)
def c4_74 : C := .ret
def c4_73 : C := (.keep [4] c4_74)
def c4_72 : C := (.cond (.t 155) (.seq (.region [
      ⟨(some 4), (.pure .mov), [.c (.bool false)], none⟩] false) c4_73)
    .skip)
def c4_71 : C := (.seq (.region [
      ⟨(some 154), (.pure .mov), [.t 20], none⟩,
      ⟨(some 155), (.pure (.un .not)), [.t 154], none⟩] false) c4_72)
def c4_61 : C := (.keep [5, 7, 17, 20, 69, 70, 71, 125, 126, 127] c4_71)
def c4_70 : C := .skip
def c4_64 : C := (.keep [5, 7, 17, 19, 20, 69, 70, 71, 125, 126, 127, 141, 142, 143] c4_70)
def c4_68 : C := (.region [
      ⟨(some 153), (.pure (.bin .add)), [.t 143, .c (.int .i64 (Int.ofNat 1))], none⟩,
      ⟨(some 143), (.pure .mov), [.t 153], none⟩] false)
def c4_69 : C := (.region [
      ⟨(some 147), (.pure .mov), [.t 20], none⟩,
      ⟨(some 148), (.pure .mov), [.t 147], none⟩,
      ⟨(some 149), (.read (.load 6 true) []), [.t 22], (some (148, false))⟩,
      ⟨(some 150), (.read (.load 6 true) []), [.t 19], (some (148, false))⟩,
      ⟨(some 151), (.pure (.aggEq false [.i, .i, .i, .i, .i, .i])), [.t 149, .t 150], (some (148, false))⟩,
      ⟨(some 152), (.pure .pick), [.t 148, .c (.bool true), .t 151], none⟩,
      ⟨(some 20), (.pure .mov), [.t 152], none⟩] false)
def c4_66 : C := (.seq (.block 9 (.seq (.region [
      ⟨(some 145), (.pure (.iaddS 6)), [.t 141, .t 143], none⟩,
      ⟨(some 146), (.read (.load 6 true) []), [.t 145], none⟩,
      ⟨(some 22), (.alloc (.alloc [(.int .i64 (Int.ofNat 0)), (.int .i64 (Int.ofNat 0)), (.int .i64 (Int.ofNat 0)), (.int .i64 (Int.ofNat 0)), (.int .i64 (Int.ofNat 0)), (.int .i64 (Int.ofNat 0))])), [], none⟩,
      ⟨none, (.eff (.store 6)), [.t 22, .t 146], none⟩] false) c4_69)) c4_68)
def c4_67 : C := (.exit 8)
def c4_65 : C := (.seq (.cond (.t 144) .skip
    (.keep [5, 7, 17, 20, 69, 70, 71, 125, 126, 127] c4_67)) c4_66)
def c4_63 : C := (.seq (.seq (.region [
      ⟨(some 144), (.pure (.bin .lss)), [.t 143, .t 142], none⟩] false) c4_65) c4_64)
def c4_62 : C := (.block 8 (.loop (some [5, 7, 17, 19, 20, 69, 70, 71, 125, 126, 127, 141, 142, 143]) c4_63))
def c4_60 : C := (.seq (.seq (.region [
      ⟨(some 141), (.pure .mov), [.t 17], none⟩,
      ⟨(some 142), (.pure .lenS), [.t 141], none⟩,
      ⟨(some 143), (.pure .mov), [.c (.int .i64 (Int.ofNat 0))], none⟩] false) c4_62) c4_61)
def c4_57 : C := (.seq (.region [
      ⟨(some 20), (.pure .mov), [.c (.bool false)], none⟩] false) c4_60)
def c4_59 : C := (.exit 7)
def c4_58 : C := (.cond (.t 140) (.keep [5, 7, 17, 69, 70, 71, 125, 126, 127] c4_59)
    .skip)
def c4_56 : C := (.seq (.seq (.region [
      ⟨(some 131), (.pure (.fadd 1)), [.t 19], none⟩,
      ⟨(some 132), (.read (.load 1 false) []), [.t 131], none⟩,
      ⟨(some 133), (.pure (.bin .neq)), [.t 132, .c (.int .i64 (Int.ofNat 100))], none⟩,
      ⟨(some 134), (.pure .mov), [.t 133], none⟩,
      ⟨(some 135), (.pure (.fadd 0)), [.t 19], (some (134, false))⟩,
      ⟨(some 136), (.read (.load 1 false) [8]), [.t 135], (some (134, false))⟩,
      ⟨(some 137), (.pure .mov), [.t 5], (some (134, false))⟩,
      ⟨(some 138), (.call 14), [.t 137], (some (134, false))⟩,
      ⟨(some 139), (.pure (.bin .gtr)), [.t 136, .t 138], (some (134, false))⟩,
      ⟨(some 140), (.pure .pick), [.t 134, .c (.bool true), .t 139], none⟩] true) c4_58) c4_57)
def c4_53 : C := (.seq (.block 7 (.seq (.region [
      ⟨(some 129), (.pure (.iaddS 6)), [.t 125, .t 127], none⟩,
      ⟨(some 130), (.read (.load 6 true) []), [.t 129], none⟩,
      ⟨(some 19), (.alloc (.alloc [(.int .i64 (Int.ofNat 0)), (.int .i64 (Int.ofNat 0)), (.int .i64 (Int.ofNat 0)), (.int .i64 (Int.ofNat 0)), (.int .i64 (Int.ofNat 0)), (.int .i64 (Int.ofNat 0))])), [], none⟩,
      ⟨none, (.eff (.store 6)), [.t 19, .t 130], none⟩] false) c4_56)) c4_55)
def c4_54 : C := (.exit 6)
def c4_52 : C := (.seq (.cond (.t 128) .skip
    (.keep [5, 7, 69, 70, 71] c4_54)) c4_53)
def c4_50 : C := (.seq (.seq (.region [
      ⟨(some 128), (.pure (.bin .lss)), [.t 127, .t 126], none⟩] false) c4_52) c4_51)
def c4_49 : C := (.block 6 (.loop (some [5, 7, 17, 69, 70, 71, 125, 126, 127]) c4_50))
def c4_48 : C := (.seq (.region [
      ⟨(some 125), (.pure .mov), [.t 7], none⟩,
      ⟨(some 126), (.pure .lenS), [.t 125], none⟩,
      ⟨(some 127), (.pure .mov), [.c (.int .i64 (Int.ofNat 0))], none⟩] false) c4_49)
def c4_47 : C := (.seq (.region [
      ⟨(some 123), (.pure .mov), [.t 5], none⟩,
      ⟨(some 124), (.call 15), [.t 123], none⟩,
      ⟨(some 17), (.pure .mov), [.t 124], none⟩] false) c4_48)
def c4_46 : C := (.seq (.region [
      ⟨(some 120), (.pure .mov), [.t 5], none⟩,
      ⟨(some 121), (.read (.load 28 true) []), [.t 14], none⟩,
      ⟨(some 122), (.call 11), [.t 120, .t 121, .c (.int .i64 (Int.ofNat 0))], none⟩] false) c4_47)
def c4_34 : C := (.keep [5, 7, 14, 69, 70, 71] c4_46)
def c4_45 : C := .skip
def c4_37 : C := (.keep [5, 7, 11, 12, 13, 14, 69, 70, 71, 87, 88, 89] c4_45)
def c4_44 : C := (.region [
      ⟨(some 119), (.pure (.bin .add)), [.t 89, .c (.int .i64 (Int.ofNat 1))], none⟩,
      ⟨(some 89), (.pure .mov), [.t 119], none⟩] false)
def c4_41 : C := (.keep [5, 7, 11, 12, 13, 14, 69, 70, 71, 87, 88, 89] c4_44)
def c4_43 : C := (.cond (.t 112) (.region [
      ⟨(some 113), (.pure (.fadd 26)), [.t 14], none⟩,
      ⟨(some 114), (.read (.load 1 false) []), [.t 113], none⟩,
      ⟨(some 115), (.read (.load 6 true) []), [.t 16], none⟩,
      ⟨(some 116), (.alloc (.bslice [(.int .i64 (Int.ofNat 0)), (.int .i64 (Int.ofNat 0)), (.int .i64 (Int.ofNat 0)), (.int .i64 (Int.ofNat 0)), (.int .i64 (Int.ofNat 0)), (.int .i64 (Int.ofNat 0))] [(0, 6)] 6 1)), [.t 115], none⟩,
      ⟨(some 117), (.eff (.app 6 48)), [.t 114, .t 116], none⟩,
      ⟨(some 118), (.pure (.fadd 26)), [.t 14], none⟩,
      ⟨none, (.eff (.store 1)), [.t 118, .t 117], none⟩] false)
    .skip)
def c4_42 : C := (.seq (.region [
      ⟨(some 93), (.pure (.fadd 0)), [.t 16], none⟩,
      ⟨(some 94), (.read (.load 1 false) []), [.t 93], none⟩,
      ⟨(some 95), (.pure .mov), [.t 13], none⟩,
      ⟨(some 96), (.pure (.bin .leq)), [.t 94, .t 95], none⟩,
      ⟨(some 97), (.pure .mov), [.t 96], none⟩,
      ⟨(some 98), (.pure (.fadd 0)), [.t 16], (some (97, true))⟩,
      ⟨(some 99), (.read (.load 1 false) []), [.t 98], (some (97, true))⟩,
      ⟨(some 100), (.pure .mov), [.t 12], (some (97, true))⟩,
      ⟨(some 101), (.pure (.bin .gtr)), [.t 99, .t 100], (some (97, true))⟩,
      ⟨(some 102), (.pure .mov), [.t 101], (some (97, true))⟩,
      ⟨(some 103), (.pure .mov), [.t 11], (some (102, false))⟩,
      ⟨(some 104), (.pure (.bin .rem)), [.t 103, .c (.int .u8 (Int.ofNat 3))], (some (102, false))⟩,
      ⟨(some 105), (.pure (.bin .eql)), [.t 104, .c (.int .u8 (Int.ofNat 0))], (some (102, false))⟩,
      ⟨(some 106), (.pure .pick), [.t 102, .c (.bool true), .t 105], (some (97, true))⟩,
      ⟨(some 107), (.pure .pick), [.t 97, .t 106, .c (.bool false)], none⟩,
      ⟨(some 108), (.pure .mov), [.t 107], none⟩,
      ⟨(some 109), (.pure (.fadd 1)), [.t 16], (some (108, true))⟩,
      ⟨(some 110), (.read (.load 1 false) []), [.t 109], (some (108, true))⟩,
      ⟨(some 111), (.pure (.bin .eql)), [.t 110, .c (.int .i64 (Int.ofNat 100))], (some (108, true))⟩,
      ⟨(some 112), (.pure .pick), [.t 108, .t 111, .c (.bool false)], none⟩] false) c4_43)
def c4_39 : C := (.seq (.block 5 (.seq (.region [
      ⟨(some 91), (.pure (.iaddS 6)), [.t 87, .t 89], none⟩,
      ⟨(some 92), (.read (.load 6 true) []), [.t 91], none⟩,
      ⟨(some 16), (.alloc (.alloc [(.int .i64 (Int.ofNat 0)), (.int .i64 (Int.ofNat 0)), (.int .i64 (Int.ofNat 0)), (.int .i64 (Int.ofNat 0)), (.int .i64 (Int.ofNat 0)), (.int .i64 (Int.ofNat 0))])), [], none⟩,
      ⟨none, (.eff (.store 6)), [.t 16, .t 92], none⟩] false) c4_42)) c4_41)
def c4_40 : C := (.exit 4)
def c4_38 : C := (.seq (.cond (.t 90) .skip
    (.keep [5, 7, 14, 69, 70, 71] c4_40)) c4_39)
def c4_36 : C := (.seq (.seq (.region [
      ⟨(some 90), (.pure (.bin .lss)), [.t 89, .t 88], none⟩] false) c4_38) c4_37)
def c4_35 : C := (.block 4 (.loop (some [5, 7, 11, 12, 13, 14, 69, 70, 71, 87, 88, 89]) c4_36))
def c4_33 : C := (.seq (.seq (.region [
      ⟨(some 87), (.pure .mov), [.t 7], none⟩,
      ⟨(some 88), (.pure .lenS), [.t 87], none⟩,
      ⟨(some 89), (.pure .mov), [.c (.int .i64 (Int.ofNat 0))], none⟩] false) c4_35) c4_34)
def c4_31 : C := (.keep [5, 7, 11, 12, 13, 14, 69, 70, 71] c4_33)
def c4_32 : C := (.cond (.t 85) (.region [
      ⟨(some 86), (.pure (.fadd 5)), [.t 14], none⟩,
      ⟨none, (.eff (.store 1)), [.t 86, .c (.int .i64 (Int.ofNat 0))], none⟩] false)
    .skip)
def c4_30 : C := (.seq (.seq (.region [
      ⟨(some 84), (.pure .mov), [.t 11], none⟩,
      ⟨(some 85), (.pure (.bin .gtr)), [.t 84, .c (.int .u8 (Int.ofNat 200))], none⟩] false) c4_32) c4_31)
def c4_29 : C := (.seq (.region [
      ⟨(some 82), (.pure .mov), [.t 13], none⟩,
      ⟨(some 83), (.pure (.build [(.int .i64 (Int.ofNat 0)), (.int .i64 (Int.ofNat 0)), (.int .i64 (Int.ofNat 0)), (.int .i64 (Int.ofNat 0)), (.int .i64 (Int.ofNat 0)), (.int .i64 (Int.ofNat 0)), (.int .i64 (Int.ofNat 0)), (.int .i64 (Int.ofNat 0)), (.int .i64 (Int.ofNat 0)), (.int .i64 (Int.ofNat 0)), (.bool false), (.int .i64 (Int.ofNat 0)), (.int .i64 (Int.ofNat 0)), (.int .i64 (Int.ofNat 0)), (.int .i64 (Int.ofNat 0)), (.int .i64 (Int.ofNat 0)), (.int .i64 (Int.ofNat 0)), (.int .i64 (Int.ofNat 0)), (.int .i64 (Int.ofNat 0)), (.int .i64 (Int.ofNat 0)), (.string ⟨⟨[]⟩⟩), (.int .i64 (Int.ofNat 0)), (.int .i64 (Int.ofNat 0)), (.int .i64 (Int.ofNat 0)), (.int .i64 (Int.ofNat 0)), (.slice none 0 0), (.slice none 0 0), (.int .i64 (Int.ofNat 0))] [(0, 1), (1, 1), (5, 1)])), [.c (.int .i64 (Int.ofNat 14)), .c (.int .i64 (Int.ofNat 100)), .t 82], none⟩,
      ⟨(some 14), (.alloc (.alloc [(.int .i64 (Int.ofNat 0)), (.int .i64 (Int.ofNat 0)), (.int .i64 (Int.ofNat 0)), (.int .i64 (Int.ofNat 0)), (.int .i64 (Int.ofNat 0)), (.int .i64 (Int.ofNat 0)), (.int .i64 (Int.ofNat 0)), (.int .i64 (Int.ofNat 0)), (.int .i64 (Int.ofNat 0)), (.int .i64 (Int.ofNat 0)), (.bool false), (.int .i64 (Int.ofNat 0)), (.int .i64 (Int.ofNat 0)), (.int .i64 (Int.ofNat 0)), (.int .i64 (Int.ofNat 0)), (.int .i64 (Int.ofNat 0)), (.int .i64 (Int.ofNat 0)), (.int .i64 (Int.ofNat 0)), (.int .i64 (Int.ofNat 0)), (.int .i64 (Int.ofNat 0)), (.string ⟨⟨[]⟩⟩), (.int .i64 (Int.ofNat 0)), (.int .i64 (Int.ofNat 0)), (.int .i64 (Int.ofNat 0)), (.int .i64 (Int.ofNat 0)), (.slice none 0 0), (.slice none 0 0), (.int .i64 (Int.ofNat 0))])), [], none⟩,
      ⟨none, (.eff (.store 28)), [.t 14, .t 83], none⟩] false) c4_30)
def c4_28 : C := (.seq (.region [
      ⟨(some 77), (.pure .mov), [.t 12], none⟩,
      ⟨(some 78), (.pure .mov), [.t 11], none⟩,
      ⟨(some 79), (.pure (.conv .i64)), [.t 78], none⟩,
      ⟨(some 80), (.pure (.bin .rem)), [.t 79, .c (.int .i64 (Int.ofNat 20))], none⟩,
      ⟨(some 81), (.pure (.bin .add)), [.t 77, .t 80], none⟩,
      ⟨(some 13), (.pure .mov), [.t 81], none⟩] false) c4_29)
def c4_27 : C := (.seq (.region [
      ⟨(some 75), (.pure .mov), [.t 5], none⟩,
      ⟨(some 76), (.call 14), [.t 75], none⟩,
      ⟨(some 12), (.pure .mov), [.t 76], none⟩] false) c4_28)
def c4_24 : C := (.seq (.block 3 (.seq (.region [
      ⟨(some 73), (.pure (.iaddS 1)), [.t 69, .t 71], none⟩,
      ⟨(some 74), (.read (.load 1 false) []), [.t 73], none⟩,
      ⟨(some 11), (.pure .mov), [.t 74], none⟩] false) c4_27)) c4_26)
def c4_25 : C := (.exit 2)
def c4_23 : C := (.seq (.cond (.t 72) .skip
    (.keep [] c4_25)) c4_24)
def c4_21 : C := (.seq (.seq (.region [
      ⟨(some 72), (.pure (.bin .lss)), [.t 71, .t 70], none⟩] false) c4_23) c4_22)
def c4_20 : C := (.block 2 (.loop (some [5, 7, 69, 70, 71]) c4_21))
def c4_18 : C := (.seq (.seq (.region [
      ⟨(some 69), (.pure .mov), [.t 1], none⟩,
      ⟨(some 70), (.pure .lenS), [.t 69], none⟩,
      ⟨(some 71), (.pure .mov), [.c (.int .i64 (Int.ofNat 0))], none⟩] false) c4_20) c4_19)
def c4_7 : C := (.keep [1, 5, 7] c4_18)
def c4_17 : C := .skip
def c4_10 : C := (.keep [1, 5, 7, 48, 49, 50] c4_17)
def c4_14 : C := (.region [
      ⟨(some 68), (.pure (.bin .add)), [.t 50, .c (.int .i64 (Int.ofNat 1))], none⟩,
      ⟨(some 50), (.pure .mov), [.t 68], none⟩] false)
def c4_16 : C := (.region [
      ⟨(some 64), (.pure .mov), [.t 7], none⟩,
      ⟨(some 65), (.read (.load 6 true) []), [.t 9], none⟩,
      ⟨(some 66), (.alloc (.bslice [(.int .i64 (Int.ofNat 0)), (.int .i64 (Int.ofNat 0)), (.int .i64 (Int.ofNat 0)), (.int .i64 (Int.ofNat 0)), (.int .i64 (Int.ofNat 0)), (.int .i64 (Int.ofNat 0))] [(0, 6)] 6 1)), [.t 65], none⟩,
      ⟨(some 67), (.eff (.app 6 48)), [.t 64, .t 66], none⟩,
      ⟨(some 7), (.pure .mov), [.t 67], none⟩] false)
def c4_15 : C := (.seq (.region [
      ⟨(some 55), (.pure .mov), [.t 8], none⟩,
      ⟨(some 56), (.pure (.bin .mul)), [.c (.int .i64 (Int.ofNat 3)), .t 55], none⟩,
      ⟨(some 57), (.pure (.bin .add)), [.t 56, .c (.int .i64 (Int.ofNat 2))], none⟩,
      ⟨(some 58), (.pure (.fadd 1)), [.t 9], none⟩,
      ⟨(some 59), (.read (.load 1 false) []), [.t 58], none⟩,
      ⟨(some 60), (.pure (.bin .and)), [.t 59, .c (.int .i64 (Int.ofNat 1))], none⟩,
      ⟨(some 61), (.pure (.bin .add)), [.c (.int .i64 (Int.ofNat 100)), .t 60], none⟩,
      ⟨(some 62), (.pure (.fadd 0)), [.t 9], none⟩,
      ⟨none, (.eff (.store 1)), [.t 62, .t 57], none⟩,
      ⟨(some 63), (.pure (.fadd 1)), [.t 9], none⟩,
      ⟨none, (.eff (.store 1)), [.t 63, .t 61], none⟩] false) c4_16)
def c4_12 : C := (.seq (.block 1 (.seq (.region [
      ⟨(some 52), (.pure .mov), [.t 50], none⟩,
      ⟨(some 53), (.pure (.iaddS 6)), [.t 48, .t 50], none⟩,
      ⟨(some 54), (.read (.load 6 true) []), [.t 53], none⟩,
      ⟨(some 9), (.alloc (.alloc [(.int .i64 (Int.ofNat 0)), (.int .i64 (Int.ofNat 0)), (.int .i64 (Int.ofNat 0)), (.int .i64 (Int.ofNat 0)), (.int .i64 (Int.ofNat 0)), (.int .i64 (Int.ofNat 0))])), [], none⟩,
      ⟨(some 8), (.pure .mov), [.t 52], none⟩,
      ⟨none, (.eff (.store 6)), [.t 9, .t 54], none⟩] false) c4_15)) c4_14)
def c4_13 : C := (.exit 0)
def c4_11 : C := (.seq (.cond (.t 51) .skip
    (.keep [1, 5, 7] c4_13)) c4_12)
def c4_9 : C := (.seq (.seq (.region [
      ⟨(some 51), (.pure (.bin .lss)), [.t 50, .t 49], none⟩] false) c4_11) c4_10)
def c4_8 : C := (.block 0 (.loop (some [1, 5, 7, 48, 49, 50]) c4_9))
def c4_6 : C := (.seq (.seq (.region [
      ⟨(some 48), (.pure .mov), [.t 0], none⟩,
      ⟨(some 49), (.pure .lenS), [.t 48], none⟩,
      ⟨(some 50), (.pure .mov), [.c (.int .i64 (Int.ofNat 0))], none⟩] false) c4_8) c4_7)
def c4_2 : C := (.seq (.region [
      ⟨(some 7), (.pure .mov), [.c (.slice none 0 0)], none⟩] false) c4_6)
def c4_5 : C := .ret
def c4_4 : C := (.keep [4] c4_5)
def c4_3 : C := (.cond (.t 42) (.seq (.region [
      ⟨(some 43), (.call 9), [], none⟩,
      ⟨(some 44), (.pure .mov), [.t 43], none⟩,
      ⟨(some 45), (.pure .mov), [.t 6], (some (44, true))⟩,
      ⟨(some 46), (.pure (.bin .eql)), [.t 45, .c (.int .i64 (Int.ofNat 0))], (some (44, true))⟩,
      ⟨(some 47), (.pure .pick), [.t 44, .t 46, .c (.bool false)], none⟩,
      ⟨(some 4), (.pure .mov), [.t 47], none⟩] false) c4_4)
    .skip)
def c4_1 : C := (.seq (.seq (.region [
      ⟨(some 27), (.call 9), [], none⟩,
      ⟨(some 28), (.pure (.un .not)), [.t 27], none⟩,
      ⟨(some 29), (.pure .mov), [.t 28], none⟩,
      ⟨(some 30), (.pure .mov), [.t 6], (some (29, false))⟩,
      ⟨(some 31), (.pure (.bin .neq)), [.t 30, .c (.int .i64 (Int.ofNat 0))], (some (29, false))⟩,
      ⟨(some 32), (.pure .pick), [.t 29, .c (.bool true), .t 31], none⟩,
      ⟨(some 33), (.pure .mov), [.t 32], none⟩,
      ⟨(some 34), (.pure .mov), [.t 0], (some (33, false))⟩,
      ⟨(some 35), (.pure .lenS), [.t 34], (some (33, false))⟩,
      ⟨(some 36), (.pure (.bin .gtr)), [.t 35, .c (.int .i64 (Int.ofNat 40))], (some (33, false))⟩,
      ⟨(some 37), (.pure .pick), [.t 33, .c (.bool true), .t 36], none⟩,
      ⟨(some 38), (.pure .mov), [.t 37], none⟩,
      ⟨(some 39), (.pure .mov), [.t 1], (some (38, false))⟩,
      ⟨(some 40), (.pure .lenS), [.t 39], (some (38, false))⟩,
      ⟨(some 41), (.pure (.bin .gtr)), [.t 40, .c (.int .i64 (Int.ofNat 100))], (some (38, false))⟩,
      ⟨(some 42), (.pure .pick), [.t 38, .c (.bool true), .t 41], none⟩] false) c4_3) c4_2)
def c4_0 : C := (.seq (.region [
      ⟨(some 24), (.call 8), [.c (.int .i64 (Int.ofNat 100))], none⟩,
      ⟨(some 23), (.pure .mov), [.t 24], none⟩,
      ⟨(some 25), (.pure (.extract 0)), [.t 23], none⟩,
      ⟨(some 26), (.pure (.extract 1)), [.t 23], none⟩,
      ⟨(some 5), (.pure .mov), [.t 25], none⟩,
      ⟨(some 6), (.pure .mov), [.t 26], none⟩] false) c4_1)
def k4 : DFn := ⟨158, (.seq (.region [
      ⟨(some 4), (.pure .mov), [.c (.bool false)], none⟩] false) c4_0), [.tmp 4]⟩
theorem c4 : (match Try.prog.funcs[4]? with | some fn => compileFn Try.prog 0 [none, none, none, none, none, some [4], none, some [1, 5, 7], none, some [1, 5, 7, 48, 49, 50], none, none, some [1, 5, 7], none, none, none, some [], none, some [5, 7, 69, 70, 71], none, none, some [], some [5, 7, 69, 70, 71], none, none, none, none, some [5, 7, 11, 12, 13, 14, 69, 70, 71], none, some [5, 7, 14, 69, 70, 71], none, some [5, 7, 11, 12, 13, 14, 69, 70, 71, 87, 88, 89], none, none, some [5, 7, 14, 69, 70, 71], some [5, 7, 11, 12, 13, 14, 69, 70, 71, 87, 88, 89], none, none, none, none, none, some [5, 7, 17, 69, 70, 71, 125, 126, 127], none, none, some [5, 7, 69, 70, 71], some [5, 7, 17, 69, 70, 71, 125, 126, 127], none, none, none, some [5, 7, 17, 69, 70, 71, 125, 126, 127], none, some [5, 7, 17, 20, 69, 70, 71, 125, 126, 127], none, some [5, 7, 17, 19, 20, 69, 70, 71, 125, 126, 127, 141, 142, 143], none, none, some [5, 7, 17, 20, 69, 70, 71, 125, 126, 127], none, none, none, none, some [4], none, some [4]] fn | none => none) = some k4 := by kernel_rfl
def q4_0 (tb : Nat → Option DFn) (nv : CallF) (Q : Value → Heap → Prop) : Kont := kSeq (fun wf H => wC tb nv c4_7 wf H (kFn [.tmp 4] Q)) (kFn [.tmp 4] Q)
def q4_1 (tb : Nat → Option DFn) (nv : CallF) (Q : Value → Heap → Prop) : Kont := kBlk 0 (q4_0 tb nv Q)
def q4_2 (tb : Nat → Option DFn) (nv : CallF) (Q : Value → Heap → Prop) : Kont := kSeq (fun wf H => wC tb nv c4_19 wf H (kFn [.tmp 4] Q)) (kFn [.tmp 4] Q)
def q4_3 (tb : Nat → Option DFn) (nv : CallF) (Q : Value → Heap → Prop) : Kont := kBlk 2 (q4_2 tb nv Q)
def q4_4 (tb : Nat → Option DFn) (nv : CallF) (K : Kont) : Kont := kSeq (fun wf H => wC tb nv c4_22 wf H K) K
def q4_5 (tb : Nat → Option DFn) (nv : CallF) (K : Kont) : Kont := kSeq (fun wf H => wC tb nv c4_26 wf H (q4_4 tb nv K)) (q4_4 tb nv K)
def q4_6 (tb : Nat → Option DFn) (nv : CallF) (K : Kont) : Kont := kBlk 3 (q4_5 tb nv K)
def q4_7 (tb : Nat → Option DFn) (nv : CallF) (K : Kont) : Kont := kSeq (fun wf H => wC tb nv c4_34 wf H (q4_6 tb nv K)) (q4_6 tb nv K)
def q4_8 (tb : Nat → Option DFn) (nv : CallF) (K : Kont) : Kont := kBlk 4 (q4_7 tb nv K)
def q4_9 (tb : Nat → Option DFn) (nv : CallF) (K : Kont) : Kont := kSeq (fun wf H => wC tb nv c4_37 wf H K) K
def q4_10 (tb : Nat → Option DFn) (nv : CallF) (K : Kont) : Kont := kBlk 6 (q4_6 tb nv K)
def q4_11 (tb : Nat → Option DFn) (nv : CallF) (K : Kont) : Kont := kSeq (fun wf H => wC tb nv c4_51 wf H K) K
def q4_12 (tb : Nat → Option DFn) (nv : CallF) (K : Kont) : Kont := kSeq (fun wf H => wC tb nv c4_55 wf H (q4_11 tb nv K)) (q4_11 tb nv K)
def q4_13 (tb : Nat → Option DFn) (nv : CallF) (K : Kont) : Kont := kBlk 7 (q4_12 tb nv K)
def q4_14 (tb : Nat → Option DFn) (nv : CallF) (K : Kont) : Kont := kSeq (fun wf H => wC tb nv c4_61 wf H (q4_13 tb nv K)) (q4_13 tb nv K)
def q4_15 (tb : Nat → Option DFn) (nv : CallF) (K : Kont) : Kont := kBlk 8 (q4_14 tb nv K)
def w4_18 (tb : Nat → Option DFn) (nv : CallF) (t1 t5 t7 : Value) (H : Heap) (Q : Value → Heap → Prop) : Prop := wC tb nv c4_18 (mkW [(1, t1), (5, t5), (7, t7)]) H (kFn [.tmp 4] Q)
def w4_33 (tb : Nat → Option DFn) (nv : CallF) (t5 t7 t11 t12 t13 t14 t69 t70 t71 : Value) (H : Heap) (K : Kont) : Prop := wC tb nv c4_33 (mkW [(5, t5), (7, t7), (11, t11), (12, t12), (13, t13), (14, t14), (69, t69), (70, t70), (71, t71)]) H (q4_6 tb nv K)
def w4_79 (tb : Nat → Option DFn) (nv : CallF) (H : Heap) (Q : Value → Heap → Prop) : Prop := wC tb nv c4_79 (mkW []) H (kFn [.tmp 4] Q)
def w4_44 (tb : Nat → Option DFn) (nv : CallF) (t5 t7 t11 t12 t13 t14 t69 t70 t71 t87 t88 t89 : Value) (H : Heap) (K : Kont) : Prop := wC tb nv c4_44 (mkW [(5, t5), (7, t7), (11, t11), (12, t12), (13, t13), (14, t14), (69, t69), (70, t70), (71, t71), (87, t87), (88, t88), (89, t89)]) H (q4_9 tb nv K)
def w4_46 (tb : Nat → Option DFn) (nv : CallF) (t5 t7 t14 t69 t70 t71 : Value) (H : Heap) (K : Kont) : Prop := wC tb nv c4_46 (mkW [(5, t5), (7, t7), (14, t14), (69, t69), (70, t70), (71, t71)]) H (q4_6 tb nv K)
def w4_75 (tb : Nat → Option DFn) (nv : CallF) (t5 t7 t17 t69 t70 t71 t125 t126 t127 : Value) (H : Heap) (K : Kont) : Prop := wC tb nv c4_75 (mkW [(5, t5), (7, t7), (17, t17), (69, t69), (70, t70), (71, t71), (125, t125), (126, t126), (127, t127)]) H (q4_11 tb nv K)
def w4_77 (tb : Nat → Option DFn) (nv : CallF) (t5 t7 t69 t70 t71 : Value) (H : Heap) (K : Kont) : Prop := wC tb nv c4_77 (mkW [(5, t5), (7, t7), (69, t69), (70, t70), (71, t71)]) H (q4_4 tb nv K)
def w4_71 (tb : Nat → Option DFn) (nv : CallF) (t5 t7 t17 t20 t69 t70 t71 t125 t126 t127 : Value) (H : Heap) (K : Kont) : Prop := wC tb nv c4_71 (mkW [(5, t5), (7, t7), (17, t17), (20, t20), (69, t69), (70, t70), (71, t71), (125, t125), (126, t126), (127, t127)]) H (q4_13 tb nv K)
theorem e4 (tb : Nat → Option DFn) (nv : CallF) (a0 a1 : Value) (H : Heap) (Q : Value → Heap → Prop) : wFn tb nv k4 [a0, a1] H Q = (
    Ev tb nv 8 [(.int .i64 100)] H fun x0 H1 =>
    wP (.extract 0) [x0] fun x2 =>
    wP (.extract 1) [x0] fun x3 =>
    Ev tb nv 9 [] H1 fun x4 H5 =>
    wP (.un .not) [x4] fun x6 =>
    asB x6 fun b7 => onB b7 (Ev tb nv 9 [] H5 fun x8 H9 =>
    asB x8 fun b10 => onB b10 (wP (.bin .eql) [x3, (.int .i64 0)] fun x11 =>
    atK (Q x11 H9))
    (atK (Q (.bool false) H9)))
    (wP (.bin .neq) [x3, (.int .i64 0)] fun x12 =>
    asB x12 fun b13 => onB b13 (Ev tb nv 9 [] H5 fun x14 H15 =>
    asB x14 fun b16 => onB b16 (wP (.bin .eql) [x3, (.int .i64 0)] fun x17 =>
    atK (Q x17 H15))
    (atK (Q (.bool false) H15)))
    (wP .lenS [a0] fun x18 =>
    wP (.bin .gtr) [x18, (.int .i64 40)] fun x19 =>
    asB x19 fun b20 => onB b20 (Ev tb nv 9 [] H5 fun x21 H22 =>
    asB x21 fun b23 => onB b23 (wP (.bin .eql) [x3, (.int .i64 0)] fun x24 =>
    atK (Q x24 H22))
    (atK (Q (.bool false) H22)))
    (wP .lenS [a1] fun x25 =>
    wP (.bin .gtr) [x25, (.int .i64 100)] fun x26 =>
    asB x26 fun b27 => onB b27 (Ev tb nv 9 [] H5 fun x28 H29 =>
    asB x28 fun b30 => onB b30 (wP (.bin .eql) [x3, (.int .i64 0)] fun x31 =>
    atK (Q x31 H29))
    (atK (Q (.bool false) H29)))
    (wP .lenS [a0] fun x32 =>
    wLoop tb nv c4_9 [1, 5, 7, 48, 49, 50] (mkW [(1, a1), (5, x2), (7, (.slice none 0 0)), (48, a0), (49, x32), (50, (.int .i64 0))]) H5 (q4_1 tb nv Q)))))) := by kernel_rfl
theorem l4_9 (tb : Nat → Option DFn) (nv : CallF) (t1 t5 t7 t48 t49 t50 : Value) (H : Heap) (K : Kont) : wC tb nv c4_9 (mkW [(1, t1), (5, t5), (7, t7), (48, t48), (49, t49), (50, t50)]) H K = (
    wP (.bin .lss) [t50, t49] fun x33 =>
    asB x33 fun b34 => onB b34 (wP (.iaddS 6) [t48, t50] fun x35 =>
    wR (.load 6 true) [x35] H fun x36 =>
    wA (.alloc [(.int .i64 0), (.int .i64 0), (.int .i64 0), (.int .i64 0), (.int .i64 0), (.int .i64 0)]) [] H fun x37 H38 =>
    wE (.store 6) [x37, x36] H38 fun x39 H40 =>
    wP (.bin .mul) [(.int .i64 3), t50] fun x41 =>
    wP (.bin .add) [x41, (.int .i64 2)] fun x42 =>
    wP (.fadd 1) [x37] fun x43 =>
    wR (.load 1 false) [x43] H40 fun x44 =>
    wP (.bin .and) [x44, (.int .i64 1)] fun x45 =>
    wP (.bin .add) [(.int .i64 100), x45] fun x46 =>
    wP (.fadd 0) [x37] fun x47 =>
    wE (.store 1) [x47, x42] H40 fun x48 H49 =>
    wP (.fadd 1) [x37] fun x50 =>
    wE (.store 1) [x50, x46] H49 fun x51 H52 =>
    wR (.load 6 true) [x37] H52 fun x53 =>
    wA (.bslice [(.int .i64 0), (.int .i64 0), (.int .i64 0), (.int .i64 0), (.int .i64 0), (.int .i64 0)] [(0, 6)] 6 1) [x53] H52 fun x54 H55 =>
    wE (.app 6 48) [t7, x54] H55 fun x56 H57 =>
    wP (.bin .add) [t50, (.int .i64 1)] fun x58 =>
    atK (K .normal (mkW [(1, t1), (5, t5), (7, x56), (48, t48), (49, t49), (50, x58)]) H57))
    (atK (K (.exit 0) (mkW [(1, t1), (5, t5), (7, t7)]) H))) := by kernel_rfl
theorem x4_9_0 (tb : Nat → Option DFn) (nv : CallF) (t1 t5 t7 : Value) (H : Heap) (Q : Value → Heap → Prop) : (q4_1 tb nv Q) (.exit 0) (mkW [(1, t1), (5, t5), (7, t7)]) H = (
    atK (w4_18 tb nv t1 t5 t7 H Q)) := by kernel_rfl
theorem e4_18 (tb : Nat → Option DFn) (nv : CallF) (t1 t5 t7 : Value) (H : Heap) (Q : Value → Heap → Prop) : w4_18 tb nv t1 t5 t7 H Q = (
    wP .lenS [t1] fun x59 =>
    wLoop tb nv c4_21 [5, 7, 69, 70, 71] (mkW [(5, t5), (7, t7), (69, t1), (70, x59), (71, (.int .i64 0))]) H (q4_3 tb nv Q)) := by kernel_rfl
theorem l4_21 (tb : Nat → Option DFn) (nv : CallF) (t5 t7 t69 t70 t71 : Value) (H : Heap) (K : Kont) : wC tb nv c4_21 (mkW [(5, t5), (7, t7), (69, t69), (70, t70), (71, t71)]) H K = (
    wP (.bin .lss) [t71, t70] fun x60 =>
    asB x60 fun b61 => onB b61 (wP (.iaddS 1) [t69, t71] fun x62 =>
    wR (.load 1 false) [x62] H fun x63 =>
    Ev tb nv 14 [t5] H fun x64 H65 =>
    wP (.conv .i64) [x63] fun x66 =>
    wP (.bin .rem) [x66, (.int .i64 20)] fun x67 =>
    wP (.bin .add) [x64, x67] fun x68 =>
    wP (.build [(.int .i64 0), (.int .i64 0), (.int .i64 0), (.int .i64 0), (.int .i64 0), (.int .i64 0), (.int .i64 0), (.int .i64 0), (.int .i64 0), (.int .i64 0), (.bool false), (.int .i64 0), (.int .i64 0), (.int .i64 0), (.int .i64 0), (.int .i64 0), (.int .i64 0), (.int .i64 0), (.int .i64 0), (.int .i64 0), (.string ⟨⟨[]⟩⟩), (.int .i64 0), (.int .i64 0), (.int .i64 0), (.int .i64 0), (.slice none 0 0), (.slice none 0 0), (.int .i64 0)] [(0, 1), (1, 1), (5, 1)]) [(.int .i64 14), (.int .i64 100), x68] fun x69 =>
    wA (.alloc [(.int .i64 0), (.int .i64 0), (.int .i64 0), (.int .i64 0), (.int .i64 0), (.int .i64 0), (.int .i64 0), (.int .i64 0), (.int .i64 0), (.int .i64 0), (.bool false), (.int .i64 0), (.int .i64 0), (.int .i64 0), (.int .i64 0), (.int .i64 0), (.int .i64 0), (.int .i64 0), (.int .i64 0), (.int .i64 0), (.string ⟨⟨[]⟩⟩), (.int .i64 0), (.int .i64 0), (.int .i64 0), (.int .i64 0), (.slice none 0 0), (.slice none 0 0), (.int .i64 0)]) [] H65 fun x70 H71 =>
    wE (.store 28) [x70, x69] H71 fun x72 H73 =>
    wP (.bin .gtr) [x63, (.int .u8 200)] fun x74 =>
    asB x74 fun b75 => onB b75 (wP (.fadd 5) [x70] fun x76 =>
    wE (.store 1) [x76, (.int .i64 0)] H73 fun x77 H78 =>
    atK (w4_33 tb nv t5 t7 x63 x64 x68 x70 t69 t70 t71 H78 K))
    (atK (w4_33 tb nv t5 t7 x63 x64 x68 x70 t69 t70 t71 H73 K)))
    (atK (K (.exit 2) (mkW []) H))) := by kernel_rfl
theorem x4_21_0 (tb : Nat → Option DFn) (nv : CallF) (H : Heap) (Q : Value → Heap → Prop) : (q4_3 tb nv Q) (.exit 2) (mkW []) H = (
    atK (w4_79 tb nv  H Q)) := by kernel_rfl
theorem e4_33 (tb : Nat → Option DFn) (nv : CallF) (t5 t7 t11 t12 t13 t14 t69 t70 t71 : Value) (H : Heap) (K : Kont) : w4_33 tb nv t5 t7 t11 t12 t13 t14 t69 t70 t71 H K = (
    wP .lenS [t7] fun x79 =>
    wLoop tb nv c4_36 [5, 7, 11, 12, 13, 14, 69, 70, 71, 87, 88, 89] (mkW [(5, t5), (7, t7), (11, t11), (12, t12), (13, t13), (14, t14), (69, t69), (70, t70), (71, t71), (87, t7), (88, x79), (89, (.int .i64 0))]) H (q4_8 tb nv K)) := by kernel_rfl
theorem e4_79 (tb : Nat → Option DFn) (nv : CallF) (H : Heap) (Q : Value → Heap → Prop) : w4_79 tb nv  H Q = (
    atK (Q (.bool true) H)) := by kernel_rfl
theorem l4_36 (tb : Nat → Option DFn) (nv : CallF) (t5 t7 t11 t12 t13 t14 t69 t70 t71 t87 t88 t89 : Value) (H : Heap) (K : Kont) : wC tb nv c4_36 (mkW [(5, t5), (7, t7), (11, t11), (12, t12), (13, t13), (14, t14), (69, t69), (70, t70), (71, t71), (87, t87), (88, t88), (89, t89)]) H K = (
    wP (.bin .lss) [t89, t88] fun x80 =>
    asB x80 fun b81 => onB b81 (wP (.iaddS 6) [t87, t89] fun x82 =>
    wR (.load 6 true) [x82] H fun x83 =>
    wA (.alloc [(.int .i64 0), (.int .i64 0), (.int .i64 0), (.int .i64 0), (.int .i64 0), (.int .i64 0)]) [] H fun x84 H85 =>
    wE (.store 6) [x84, x83] H85 fun x86 H87 =>
    wP (.fadd 0) [x84] fun x88 =>
    wR (.load 1 false) [x88] H87 fun x89 =>
    wP (.bin .leq) [x89, t13] fun x90 =>
    asB x90 fun b91 => onB b91 (wP (.fadd 0) [x84] fun x92 =>
    wR (.load 1 false) [x92] H87 fun x93 =>
    wP (.bin .gtr) [x93, t12] fun x94 =>
    asB x94 fun b95 => onB b95 (wP (.fadd 1) [x84] fun x96 =>
    wR (.load 1 false) [x96] H87 fun x97 =>
    wP (.bin .eql) [x97, (.int .i64 100)] fun x98 =>
    asB x98 fun b99 => onB b99 (wP (.fadd 26) [t14] fun x100 =>
    wR (.load 1 false) [x100] H87 fun x101 =>
    wR (.load 6 true) [x84] H87 fun x102 =>
    wA (.bslice [(.int .i64 0), (.int .i64 0), (.int .i64 0), (.int .i64 0), (.int .i64 0), (.int .i64 0)] [(0, 6)] 6 1) [x102] H87 fun x103 H104 =>
    wE (.app 6 48) [x101, x103] H104 fun x105 H106 =>
    wP (.fadd 26) [t14] fun x107 =>
    wE (.store 1) [x107, x105] H106 fun x108 H109 =>
    atK (w4_44 tb nv t5 t7 t11 t12 t13 t14 t69 t70 t71 t87 t88 t89 H109 K))
    (atK (w4_44 tb nv t5 t7 t11 t12 t13 t14 t69 t70 t71 t87 t88 t89 H87 K)))
    (wP (.bin .rem) [t11, (.int .u8 3)] fun x110 =>
    wP (.bin .eql) [x110, (.int .u8 0)] fun x111 =>
    asB x111 fun b112 => onB b112 (wP (.fadd 1) [x84] fun x113 =>
    wR (.load 1 false) [x113] H87 fun x114 =>
    wP (.bin .eql) [x114, (.int .i64 100)] fun x115 =>
    asB x115 fun b116 => onB b116 (wP (.fadd 26) [t14] fun x117 =>
    wR (.load 1 false) [x117] H87 fun x118 =>
    wR (.load 6 true) [x84] H87 fun x119 =>
    wA (.bslice [(.int .i64 0), (.int .i64 0), (.int .i64 0), (.int .i64 0), (.int .i64 0), (.int .i64 0)] [(0, 6)] 6 1) [x119] H87 fun x120 H121 =>
    wE (.app 6 48) [x118, x120] H121 fun x122 H123 =>
    wP (.fadd 26) [t14] fun x124 =>
    wE (.store 1) [x124, x122] H123 fun x125 H126 =>
    atK (w4_44 tb nv t5 t7 t11 t12 t13 t14 t69 t70 t71 t87 t88 t89 H126 K))
    (atK (w4_44 tb nv t5 t7 t11 t12 t13 t14 t69 t70 t71 t87 t88 t89 H87 K)))
    (atK (w4_44 tb nv t5 t7 t11 t12 t13 t14 t69 t70 t71 t87 t88 t89 H87 K))))
    (atK (w4_44 tb nv t5 t7 t11 t12 t13 t14 t69 t70 t71 t87 t88 t89 H87 K)))
    (atK (K (.exit 4) (mkW [(5, t5), (7, t7), (14, t14), (69, t69), (70, t70), (71, t71)]) H))) := by kernel_rfl
theorem x4_36_0 (tb : Nat → Option DFn) (nv : CallF) (t5 t7 t14 t69 t70 t71 : Value) (H : Heap) (K : Kont) : (q4_8 tb nv K) (.exit 4) (mkW [(5, t5), (7, t7), (14, t14), (69, t69), (70, t70), (71, t71)]) H = (
    atK (w4_46 tb nv t5 t7 t14 t69 t70 t71 H K)) := by kernel_rfl
theorem e4_44 (tb : Nat → Option DFn) (nv : CallF) (t5 t7 t11 t12 t13 t14 t69 t70 t71 t87 t88 t89 : Value) (H : Heap) (K : Kont) : w4_44 tb nv t5 t7 t11 t12 t13 t14 t69 t70 t71 t87 t88 t89 H K = (
    wP (.bin .add) [t89, (.int .i64 1)] fun x127 =>
    atK (K .normal (mkW [(5, t5), (7, t7), (11, t11), (12, t12), (13, t13), (14, t14), (69, t69), (70, t70), (71, t71), (87, t87), (88, t88), (89, x127)]) H)) := by kernel_rfl
theorem e4_46 (tb : Nat → Option DFn) (nv : CallF) (t5 t7 t14 t69 t70 t71 : Value) (H : Heap) (K : Kont) : w4_46 tb nv t5 t7 t14 t69 t70 t71 H K = (
    wR (.load 28 true) [t14] H fun x128 =>
    Ev tb nv 11 [t5, x128, (.int .i64 0)] H fun x129 H130 =>
    Ev tb nv 15 [t5] H130 fun x131 H132 =>
    wP .lenS [t7] fun x133 =>
    wLoop tb nv c4_50 [5, 7, 17, 69, 70, 71, 125, 126, 127] (mkW [(5, t5), (7, t7), (17, x131), (69, t69), (70, t70), (71, t71), (125, t7), (126, x133), (127, (.int .i64 0))]) H132 (q4_10 tb nv K)) := by kernel_rfl
theorem l4_50 (tb : Nat → Option DFn) (nv : CallF) (t5 t7 t17 t69 t70 t71 t125 t126 t127 : Value) (H : Heap) (K : Kont) : wC tb nv c4_50 (mkW [(5, t5), (7, t7), (17, t17), (69, t69), (70, t70), (71, t71), (125, t125), (126, t126), (127, t127)]) H K = (
    wP (.bin .lss) [t127, t126] fun x134 =>
    asB x134 fun b135 => onB b135 (wP (.iaddS 6) [t125, t127] fun x136 =>
    wR (.load 6 true) [x136] H fun x137 =>
    wA (.alloc [(.int .i64 0), (.int .i64 0), (.int .i64 0), (.int .i64 0), (.int .i64 0), (.int .i64 0)]) [] H fun x138 H139 =>
    wE (.store 6) [x138, x137] H139 fun x140 H141 =>
    wP (.fadd 1) [x138] fun x142 =>
    wR (.load 1 false) [x142] H141 fun x143 =>
    wP (.bin .neq) [x143, (.int .i64 100)] fun x144 =>
    asB x144 fun b145 => onB b145 (wChk [H141, H141, H141, H141, H141, H141, H141, H141, H141, H141, H141] [] (atK (atK (w4_75 tb nv t5 t7 t17 t69 t70 t71 t125 t126 t127 H141 K))))
    (wP (.fadd 0) [x138] fun x146 =>
    wR (.load 1 false) [x146] H141 fun x147 =>
    Ev tb nv 14 [t5] H141 fun x148 H149 =>
    wP (.bin .gtr) [x147, x148] fun x150 =>
    wChk [H141, H141, H141, H141, H141, H141, H141, H141, H149, H149, H149] [⟨(.load 1 false), [x146], x147, [8]⟩] (asB x150 fun b151 => onB b151 (atK (atK (w4_75 tb nv t5 t7 t17 t69 t70 t71 t125 t126 t127 H149 K)))
    (wP .lenS [t17] fun x152 =>
    wLoop tb nv c4_63 [5, 7, 17, 19, 20, 69, 70, 71, 125, 126, 127, 141, 142, 143] (mkW [(5, t5), (7, t7), (17, t17), (19, x138), (20, (.bool false)), (69, t69), (70, t70), (71, t71), (125, t125), (126, t126), (127, t127), (141, t17), (142, x152), (143, (.int .i64 0))]) H149 (q4_15 tb nv K)))))
    (atK (K (.exit 6) (mkW [(5, t5), (7, t7), (69, t69), (70, t70), (71, t71)]) H))) := by kernel_rfl
theorem x4_50_0 (tb : Nat → Option DFn) (nv : CallF) (t5 t7 t69 t70 t71 : Value) (H : Heap) (K : Kont) : (q4_10 tb nv K) (.exit 6) (mkW [(5, t5), (7, t7), (69, t69), (70, t70), (71, t71)]) H = (
    atK (w4_77 tb nv t5 t7 t69 t70 t71 H K)) := by kernel_rfl
theorem e4_75 (tb : Nat → Option DFn) (nv : CallF) (t5 t7 t17 t69 t70 t71 t125 t126 t127 : Value) (H : Heap) (K : Kont) : w4_75 tb nv t5 t7 t17 t69 t70 t71 t125 t126 t127 H K = (
    wP (.bin .add) [t127, (.int .i64 1)] fun x153 =>
    atK (K .normal (mkW [(5, t5), (7, t7), (17, t17), (69, t69), (70, t70), (71, t71), (125, t125), (126, t126), (127, x153)]) H)) := by kernel_rfl
theorem e4_77 (tb : Nat → Option DFn) (nv : CallF) (t5 t7 t69 t70 t71 : Value) (H : Heap) (K : Kont) : w4_77 tb nv t5 t7 t69 t70 t71 H K = (
    wP (.bin .add) [t71, (.int .i64 1)] fun x154 =>
    atK (K .normal (mkW [(5, t5), (7, t7), (69, t69), (70, t70), (71, x154)]) H)) := by kernel_rfl
theorem l4_63 (tb : Nat → Option DFn) (nv : CallF) (t5 t7 t17 t19 t20 t69 t70 t71 t125 t126 t127 t141 t142 t143 : Value) (H : Heap) (K : Kont) : wC tb nv c4_63 (mkW [(5, t5), (7, t7), (17, t17), (19, t19), (20, t20), (69, t69), (70, t70), (71, t71), (125, t125), (126, t126), (127, t127), (141, t141), (142, t142), (143, t143)]) H K = (
    wP (.bin .lss) [t143, t142] fun x155 =>
    asB x155 fun b156 => onB b156 (wP (.iaddS 6) [t141, t143] fun x157 =>
    wR (.load 6 true) [x157] H fun x158 =>
    wA (.alloc [(.int .i64 0), (.int .i64 0), (.int .i64 0), (.int .i64 0), (.int .i64 0), (.int .i64 0)]) [] H fun x159 H160 =>
    wE (.store 6) [x159, x158] H160 fun x161 H162 =>
    asB t20 fun b163 => onB b163 (wP (.bin .add) [t143, (.int .i64 1)] fun x164 =>
    atK (K .normal (mkW [(5, t5), (7, t7), (17, t17), (19, t19), (20, (.bool true)), (69, t69), (70, t70), (71, t71), (125, t125), (126, t126), (127, t127), (141, t141), (142, t142), (143, x164)]) H162))
    (wR (.load 6 true) [x159] H162 fun x165 =>
    wR (.load 6 true) [t19] H162 fun x166 =>
    wP (.aggEq false [.i, .i, .i, .i, .i, .i]) [x165, x166] fun x167 =>
    wP (.bin .add) [t143, (.int .i64 1)] fun x168 =>
    atK (K .normal (mkW [(5, t5), (7, t7), (17, t17), (19, t19), (20, x167), (69, t69), (70, t70), (71, t71), (125, t125), (126, t126), (127, t127), (141, t141), (142, t142), (143, x168)]) H162)))
    (atK (K (.exit 8) (mkW [(5, t5), (7, t7), (17, t17), (20, t20), (69, t69), (70, t70), (71, t71), (125, t125), (126, t126), (127, t127)]) H))) := by kernel_rfl
theorem x4_63_0 (tb : Nat → Option DFn) (nv : CallF) (t5 t7 t17 t20 t69 t70 t71 t125 t126 t127 : Value) (H : Heap) (K : Kont) : (q4_15 tb nv K) (.exit 8) (mkW [(5, t5), (7, t7), (17, t17), (20, t20), (69, t69), (70, t70), (71, t71), (125, t125), (126, t126), (127, t127)]) H = (
    atK (w4_71 tb nv t5 t7 t17 t20 t69 t70 t71 t125 t126 t127 H K)) := by kernel_rfl
theorem e4_71 (tb : Nat → Option DFn) (nv : CallF) (t5 t7 t17 t20 t69 t70 t71 t125 t126 t127 : Value) (H : Heap) (K : Kont) : w4_71 tb nv t5 t7 t17 t20 t69 t70 t71 t125 t126 t127 H K = (
    wP (.un .not) [t20] fun x169 =>
    asB x169 fun b170 => onB b170 (atK (K .ret (mkW [(4, (.bool false))]) H))
    (atK (w4_75 tb nv t5 t7 t17 t69 t70 t71 t125 t126 t127 H K))) := by kernel_rfl

/-- tompion/tompionlaw17.ClientAsks -/
def c5_63 : C := .ret
def c5_62 : C := (.keep [6] c5_63)
def c5_61 : C := (.seq (.region [
      ⟨(some 6), (.pure .mov), [.c (.bool true)], none⟩] false) c5_62)
def c5_13 : C := (.keep [] c5_61)
def c5_60 : C := .skip
def c5_16 : C := (.keep [2, 3, 7, 11, 58, 59, 60] c5_60)
def c5_59 : C := (.region [
      ⟨(some 237), (.pure (.bin .add)), [.t 60, .c (.int .i64 (Int.ofNat 1))], none⟩,
      ⟨(some 60), (.pure .mov), [.t 237], none⟩] false)
def c5_20 : C := (.keep [2, 3, 7, 11, 58, 59, 60] c5_59)
def c5_51 : C := .ret
def c5_50 : C := (.keep [6] c5_51)
def c5_49 : C := (.cond (.t 208) (.seq (.region [
      ⟨(some 6), (.pure .mov), [.c (.bool false)], none⟩] false) c5_50)
    .skip)
def c5_55 : C := .ret
def c5_54 : C := (.keep [6] c5_55)
def c5_53 : C := (.cond (.t 236) (.seq (.region [
      ⟨(some 6), (.pure .mov), [.c (.bool false)], none⟩] false) c5_54)
    .skip)
def c5_58 : C := .ret
def c5_57 : C := (.keep [6] c5_58)
def c5_56 : C := (.cond (.t 173) (.seq (.region [
      ⟨(some 6), (.pure .mov), [.c (.bool false)], none⟩] false) c5_57)
    .skip)
def c5_52 : C := (.cond (.t 209) (.seq (.region [
      ⟨(some 211), (.pure (.fadd 0)), [.t 15], none⟩,
      ⟨(some 212), (.read (.load 1 false) []), [.t 211], none⟩,
      ⟨(some 213), (.pure (.bin .neq)), [.t 212, .c (.int .i64 (Int.ofNat 7))], none⟩,
      ⟨(some 214), (.pure .mov), [.t 213], none⟩,
      ⟨(some 215), (.pure (.fadd 1)), [.t 15], (some (214, false))⟩,
      ⟨(some 216), (.read (.load 1 false) []), [.t 215], (some (214, false))⟩,
      ⟨(some 217), (.pure (.fadd 1)), [.t 11], (some (214, false))⟩,
      ⟨(some 218), (.read (.load 1 false) []), [.t 217], (some (214, false))⟩,
      ⟨(some 219), (.pure (.iaddS 3)), [.t 218, .c (.int .i64 (Int.ofNat 0))], (some (214, false))⟩,
      ⟨(some 220), (.pure (.fadd 0)), [.t 219], (some (214, false))⟩,
      ⟨(some 221), (.pure (.fadd 0)), [.t 220], (some (214, false))⟩,
      ⟨(some 222), (.read (.load 1 false) []), [.t 221], (some (214, false))⟩,
      ⟨(some 223), (.pure (.bin .neq)), [.t 216, .t 222], (some (214, false))⟩,
      ⟨(some 224), (.pure .pick), [.t 214, .c (.bool true), .t 223], none⟩,
      ⟨(some 225), (.pure .mov), [.t 224], none⟩,
      ⟨(some 226), (.pure (.fadd 11)), [.t 15], (some (225, false))⟩,
      ⟨(some 227), (.read (.load 10 true) []), [.t 226], (some (225, false))⟩,
      ⟨(some 228), (.pure (.fadd 1)), [.t 3], (some (225, false))⟩,
      ⟨(some 229), (.read (.load 1 false) []), [.t 228], (some (225, false))⟩,
      ⟨(some 230), (.pure (.fadd 2)), [.t 3], (some (225, false))⟩,
      ⟨(some 231), (.read (.load 1 false) []), [.t 230], (some (225, false))⟩,
      ⟨(some 232), (.pure (.fadd 4)), [.t 3], (some (225, false))⟩,
      ⟨(some 233), (.read (.load 1 false) []), [.t 232], (some (225, false))⟩,
      ⟨(some 234), (.pure (.build [(.int .i64 (Int.ofNat 0)), (.int .i64 (Int.ofNat 0)), (.int .i64 (Int.ofNat 0)), (.int .i64 (Int.ofNat 0)), (.int .i64 (Int.ofNat 0)), (.int .i64 (Int.ofNat 0)), (.int .i64 (Int.ofNat 0)), (.int .i64 (Int.ofNat 0)), (.int .i64 (Int.ofNat 0)), (.string ⟨⟨[]⟩⟩)] [(0, 1), (1, 1), (2, 1), (3, 1), (6, 1), (9, 1)])), [.c (.int .i64 (Int.ofNat 1)), .c (.int .i64 (Int.ofNat 102)), .c (.int .i64 (Int.ofNat 1)), .t 229, .t 231, .t 233], (some (225, false))⟩,
      ⟨(some 235), (.pure (.aggEq true [.i, .i, .i, .i, .i, .i, .i, .i, .i, .s])), [.t 227, .t 234], (some (225, false))⟩,
      ⟨(some 236), (.pure .pick), [.t 225, .c (.bool true), .t 235], none⟩] false) c5_53)
    (.seq (.region [
      ⟨(some 152), (.pure (.fadd 0)), [.t 15], none⟩,
      ⟨(some 153), (.read (.load 1 false) []), [.t 152], none⟩,
      ⟨(some 154), (.pure (.bin .neq)), [.t 153, .c (.int .i64 (Int.ofNat 7))], none⟩,
      ⟨(some 155), (.pure .mov), [.t 154], none⟩,
      ⟨(some 156), (.pure (.fadd 1)), [.t 15], (some (155, false))⟩,
      ⟨(some 157), (.read (.load 1 false) []), [.t 156], (some (155, false))⟩,
      ⟨(some 158), (.pure (.fadd 1)), [.t 11], (some (155, false))⟩,
      ⟨(some 159), (.read (.load 1 false) []), [.t 158], (some (155, false))⟩,
      ⟨(some 160), (.pure (.iaddS 3)), [.t 159, .c (.int .i64 (Int.ofNat 0))], (some (155, false))⟩,
      ⟨(some 161), (.pure (.fadd 0)), [.t 160], (some (155, false))⟩,
      ⟨(some 162), (.pure (.fadd 0)), [.t 161], (some (155, false))⟩,
      ⟨(some 163), (.read (.load 1 false) []), [.t 162], (some (155, false))⟩,
      ⟨(some 164), (.pure (.bin .neq)), [.t 157, .t 163], (some (155, false))⟩,
      ⟨(some 165), (.pure .pick), [.t 155, .c (.bool true), .t 164], none⟩,
      ⟨(some 166), (.pure .mov), [.t 165], none⟩,
      ⟨(some 167), (.pure (.fadd 11)), [.t 15], (some (166, false))⟩,
      ⟨(some 168), (.read (.load 10 true) []), [.t 167], (some (166, false))⟩,
      ⟨(some 169), (.pure (.fadd 1)), [.t 3], (some (166, false))⟩,
      ⟨(some 170), (.read (.load 1 false) []), [.t 169], (some (166, false))⟩,
      ⟨(some 171), (.pure (.build [(.int .i64 (Int.ofNat 0)), (.int .i64 (Int.ofNat 0)), (.int .i64 (Int.ofNat 0)), (.int .i64 (Int.ofNat 0)), (.int .i64 (Int.ofNat 0)), (.int .i64 (Int.ofNat 0)), (.int .i64 (Int.ofNat 0)), (.int .i64 (Int.ofNat 0)), (.int .i64 (Int.ofNat 0)), (.string ⟨⟨[]⟩⟩)] [(0, 1), (1, 1), (2, 1), (3, 1)])), [.c (.int .i64 (Int.ofNat 2)), .c (.int .i64 (Int.ofNat 102)), .c (.int .i64 (Int.ofNat 1)), .t 170], (some (166, false))⟩,
      ⟨(some 172), (.pure (.aggEq true [.i, .i, .i, .i, .i, .i, .i, .i, .i, .s])), [.t 168, .t 171], (some (166, false))⟩,
      ⟨(some 173), (.pure .pick), [.t 166, .c (.bool true), .t 172], none⟩] false) c5_56))
def c5_48 : C := (.cond (.t 174) (.seq (.region [
      ⟨(some 176), (.pure (.fadd 0)), [.t 15], none⟩,
      ⟨(some 177), (.read (.load 1 false) []), [.t 176], none⟩,
      ⟨(some 178), (.pure (.bin .neq)), [.t 177, .c (.int .i64 (Int.ofNat 9))], none⟩,
      ⟨(some 179), (.pure .mov), [.t 178], none⟩,
      ⟨(some 180), (.pure (.fadd 6)), [.t 15], (some (179, false))⟩,
      ⟨(some 181), (.read (.load 1 false) []), [.t 180], (some (179, false))⟩,
      ⟨(some 182), (.pure (.bin .neq)), [.t 181, .c (.int .i64 (Int.ofNat 1))], (some (179, false))⟩,
      ⟨(some 183), (.pure .pick), [.t 179, .c (.bool true), .t 182], none⟩,
      ⟨(some 184), (.pure .mov), [.t 183], none⟩,
      ⟨(some 185), (.pure (.fadd 8)), [.t 15], (some (184, false))⟩,
      ⟨(some 186), (.read (.load 1 false) []), [.t 185], (some (184, false))⟩,
      ⟨(some 187), (.pure (.fadd 1)), [.t 3], (some (184, false))⟩,
      ⟨(some 188), (.read (.load 1 false) []), [.t 187], (some (184, false))⟩,
      ⟨(some 189), (.pure (.bin .neq)), [.t 186, .t 188], (some (184, false))⟩,
      ⟨(some 190), (.pure .pick), [.t 184, .c (.bool true), .t 189], none⟩,
      ⟨(some 191), (.pure .mov), [.t 190], none⟩,
      ⟨(some 192), (.pure (.fadd 1)), [.t 15], (some (191, false))⟩,
      ⟨(some 193), (.read (.load 1 false) []), [.t 192], (some (191, false))⟩,
      ⟨(some 194), (.pure (.fadd 1)), [.t 11], (some (191, false))⟩,
      ⟨(some 195), (.read (.load 1 false) []), [.t 194], (some (191, false))⟩,
      ⟨(some 196), (.pure (.fadd 3)), [.t 3], (some (191, false))⟩,
      ⟨(some 197), (.read (.load 1 false) []), [.t 196], (some (191, false))⟩,
      ⟨(some 198), (.pure .max), [.t 197, .c (.int .i64 (Int.ofNat 0))], (some (191, false))⟩,
      ⟨(some 199), (.pure (.fadd 1)), [.t 11], (some (191, false))⟩,
      ⟨(some 200), (.read (.load 1 false) []), [.t 199], (some (191, false))⟩,
      ⟨(some 201), (.pure .lenS), [.t 200], (some (191, false))⟩,
      ⟨(some 202), (.pure (.bin .rem)), [.t 198, .t 201], (some (191, false))⟩,
      ⟨(some 203), (.pure (.iaddS 3)), [.t 195, .t 202], (some (191, false))⟩,
      ⟨(some 204), (.pure (.fadd 0)), [.t 203], (some (191, false))⟩,
      ⟨(some 205), (.pure (.fadd 0)), [.t 204], (some (191, false))⟩,
      ⟨(some 206), (.read (.load 1 false) []), [.t 205], (some (191, false))⟩,
      ⟨(some 207), (.pure (.bin .neq)), [.t 193, .t 206], (some (191, false))⟩,
      ⟨(some 208), (.pure .pick), [.t 191, .c (.bool true), .t 207], none⟩] false) c5_49)
    (.seq (.region [
      ⟨(some 210), (.pure (.bin .eql)), [.t 151, .c (.int .i64 (Int.ofNat 1))], none⟩,
      ⟨(some 209), (.pure .mov), [.t 210], none⟩] false) c5_52))
def c5_47 : C := (.block 2 (.seq (.region [
      ⟨(some 175), (.pure (.bin .eql)), [.t 151, .c (.int .i64 (Int.ofNat 3))], none⟩,
      ⟨(some 174), (.pure .mov), [.t 175], none⟩] false) c5_48))
def c5_46 : C := (.seq (.region [
      ⟨(some 150), (.pure (.fadd 0)), [.t 3], none⟩,
      ⟨(some 151), (.read (.load 1 false) []), [.t 150], none⟩] false) c5_47)
def c5_42 : C := (.seq (.region [
      ⟨(some 147), (.pure .mov), [.t 14], none⟩,
      ⟨(some 148), (.pure (.iaddS 28)), [.t 147, .c (.int .i64 (Int.ofNat 0))], none⟩,
      ⟨(some 149), (.read (.load 28 true) []), [.t 148], none⟩,
      ⟨(some 15), (.alloc (.alloc [(.int .i64 (Int.ofNat 0)), (.int .i64 (Int.ofNat 0)), (.int .i64 (Int.ofNat 0)), (.int .i64 (Int.ofNat 0)), (.int .i64 (Int.ofNat 0)), (.int .i64 (Int.ofNat 0)), (.int .i64 (Int.ofNat 0)), (.int .i64 (Int.ofNat 0)), (.int .i64 (Int.ofNat 0)), (.int .i64 (Int.ofNat 0)), (.bool false), (.int .i64 (Int.ofNat 0)), (.int .i64 (Int.ofNat 0)), (.int .i64 (Int.ofNat 0)), (.int .i64 (Int.ofNat 0)), (.int .i64 (Int.ofNat 0)), (.int .i64 (Int.ofNat 0)), (.int .i64 (Int.ofNat 0)), (.int .i64 (Int.ofNat 0)), (.int .i64 (Int.ofNat 0)), (.string ⟨⟨[]⟩⟩), (.int .i64 (Int.ofNat 0)), (.int .i64 (Int.ofNat 0)), (.int .i64 (Int.ofNat 0)), (.int .i64 (Int.ofNat 0)), (.slice none 0 0), (.slice none 0 0), (.int .i64 (Int.ofNat 0))])), [], none⟩,
      ⟨none, (.eff (.store 28)), [.t 15, .t 149], none⟩] false) c5_46)
def c5_45 : C := .ret
def c5_44 : C := (.keep [6] c5_45)
def c5_43 : C := (.cond (.t 146) (.seq (.region [
      ⟨(some 6), (.pure .mov), [.c (.bool false)], none⟩] false) c5_44)
    .skip)
def c5_35 : C := (.seq (.seq (.region [
      ⟨(some 113), (.pure .mov), [.t 14], none⟩,
      ⟨(some 114), (.pure .lenS), [.t 113], none⟩,
      ⟨(some 115), (.pure (.bin .neq)), [.t 114, .c (.int .i64 (Int.ofNat 3))], none⟩,
      ⟨(some 116), (.pure .mov), [.t 115], none⟩,
      ⟨(some 117), (.pure .mov), [.t 14], (some (116, false))⟩,
      ⟨(some 118), (.pure (.iaddS 28)), [.t 117, .c (.int .i64 (Int.ofNat 1))], (some (116, false))⟩,
      ⟨(some 119), (.pure (.fadd 0)), [.t 118], (some (116, false))⟩,
      ⟨(some 120), (.read (.load 1 false) []), [.t 119], (some (116, false))⟩,
      ⟨(some 121), (.pure (.bin .neq)), [.t 120, .c (.int .i64 (Int.ofNat 15))], (some (116, false))⟩,
      ⟨(some 122), (.pure .pick), [.t 116, .c (.bool true), .t 121], none⟩,
      ⟨(some 123), (.pure .mov), [.t 122], none⟩,
      ⟨(some 124), (.pure .mov), [.t 14], (some (123, false))⟩,
      ⟨(some 125), (.pure (.iaddS 28)), [.t 124, .c (.int .i64 (Int.ofNat 2))], (some (123, false))⟩,
      ⟨(some 126), (.pure (.fadd 0)), [.t 125], (some (123, false))⟩,
      ⟨(some 127), (.read (.load 1 false) []), [.t 126], (some (123, false))⟩,
      ⟨(some 128), (.pure (.bin .neq)), [.t 127, .c (.int .i64 (Int.ofNat 13))], (some (123, false))⟩,
      ⟨(some 129), (.pure .pick), [.t 123, .c (.bool true), .t 128], none⟩,
      ⟨(some 130), (.pure .mov), [.t 129], none⟩,
      ⟨(some 131), (.pure .mov), [.t 14], (some (130, false))⟩,
      ⟨(some 132), (.pure (.iaddS 28)), [.t 131, .c (.int .i64 (Int.ofNat 2))], (some (130, false))⟩,
      ⟨(some 133), (.pure (.fadd 1)), [.t 132], (some (130, false))⟩,
      ⟨(some 134), (.read (.load 1 false) []), [.t 133], (some (130, false))⟩,
      ⟨(some 135), (.pure (.fadd 1)), [.t 11], (some (130, false))⟩,
      ⟨(some 136), (.read (.load 1 false) []), [.t 135], (some (130, false))⟩,
      ⟨(some 137), (.pure (.fadd 1)), [.t 11], (some (130, false))⟩,
      ⟨(some 138), (.read (.load 1 false) []), [.t 137], (some (130, false))⟩,
      ⟨(some 139), (.pure .lenS), [.t 138], (some (130, false))⟩,
      ⟨(some 140), (.pure (.bin .sub)), [.t 139, .c (.int .i64 (Int.ofNat 1))], (some (130, false))⟩,
      ⟨(some 141), (.pure (.iaddS 3)), [.t 136, .t 140], (some (130, false))⟩,
      ⟨(some 142), (.pure (.fadd 0)), [.t 141], (some (130, false))⟩,
      ⟨(some 143), (.pure (.fadd 0)), [.t 142], (some (130, false))⟩,
      ⟨(some 144), (.read (.load 1 false) []), [.t 143], (some (130, false))⟩,
      ⟨(some 145), (.pure (.bin .neq)), [.t 134, .t 144], (some (130, false))⟩,
      ⟨(some 146), (.pure .pick), [.t 130, .c (.bool true), .t 145], none⟩] false) c5_43) c5_42)
def c5_41 : C := (.exit 1)
def c5_37 : C := (.keep [2, 3, 7, 11, 58, 59, 60] c5_41)
def c5_40 : C := .ret
def c5_39 : C := (.keep [6] c5_40)
def c5_38 : C := (.cond (.t 112) (.seq (.region [
      ⟨(some 6), (.pure .mov), [.c (.bool false)], none⟩] false) c5_39)
    .skip)
def c5_36 : C := (.cond (.t 95) (.seq (.seq (.region [
      ⟨(some 96), (.pure .mov), [.t 14], none⟩,
      ⟨(some 97), (.pure .lenS), [.t 96], none⟩,
      ⟨(some 98), (.pure (.bin .neq)), [.t 97, .c (.int .i64 (Int.ofNat 2))], none⟩,
      ⟨(some 99), (.pure .mov), [.t 98], none⟩,
      ⟨(some 100), (.pure .mov), [.t 14], (some (99, false))⟩,
      ⟨(some 101), (.pure (.iaddS 28)), [.t 100, .c (.int .i64 (Int.ofNat 0))], (some (99, false))⟩,
      ⟨(some 102), (.pure (.fadd 0)), [.t 101], (some (99, false))⟩,
      ⟨(some 103), (.read (.load 1 false) []), [.t 102], (some (99, false))⟩,
      ⟨(some 104), (.pure (.bin .neq)), [.t 103, .c (.int .i64 (Int.ofNat 15))], (some (99, false))⟩,
      ⟨(some 105), (.pure .pick), [.t 99, .c (.bool true), .t 104], none⟩,
      ⟨(some 106), (.pure .mov), [.t 105], none⟩,
      ⟨(some 107), (.pure .mov), [.t 14], (some (106, false))⟩,
      ⟨(some 108), (.pure (.iaddS 28)), [.t 107, .c (.int .i64 (Int.ofNat 1))], (some (106, false))⟩,
      ⟨(some 109), (.pure (.fadd 0)), [.t 108], (some (106, false))⟩,
      ⟨(some 110), (.read (.load 1 false) []), [.t 109], (some (106, false))⟩,
      ⟨(some 111), (.pure (.bin .neq)), [.t 110, .c (.int .i64 (Int.ofNat 15))], (some (106, false))⟩,
      ⟨(some 112), (.pure .pick), [.t 106, .c (.bool true), .t 111], none⟩] false) c5_38) c5_37)
    .skip)
def c5_31 : C := (.seq (.seq (.region [
      ⟨(some 92), (.pure (.fadd 1)), [.t 11], none⟩,
      ⟨(some 93), (.read (.load 1 false) []), [.t 92], none⟩,
      ⟨(some 94), (.pure .lenS), [.t 93], none⟩,
      ⟨(some 95), (.pure (.bin .eql)), [.t 94, .c (.int .i64 (Int.ofNat 0))], none⟩] false) c5_36) c5_35)
def c5_34 : C := .ret
def c5_33 : C := (.keep [6] c5_34)
def c5_32 : C := (.cond (.t 91) (.seq (.region [
      ⟨(some 6), (.pure .mov), [.c (.bool false)], none⟩] false) c5_33)
    .skip)
def c5_30 : C := (.seq (.seq (.region [
      ⟨(some 87), (.pure .mov), [.t 7], none⟩,
      ⟨(some 88), (.call 19), [.t 87], none⟩,
      ⟨(some 89), (.read (.load 2 true) [1]), [.t 11], none⟩,
      ⟨(some 90), (.call 18), [.t 88, .t 89], none⟩,
      ⟨(some 91), (.pure (.un .not)), [.t 90], none⟩] true) c5_32) c5_31)
def c5_29 : C := (.seq (.region [
      ⟨(some 83), (.pure .mov), [.t 7], none⟩,
      ⟨(some 84), (.pure .mov), [.t 2], none⟩,
      ⟨(some 85), (.pure (.bin .add)), [.t 84, .c (.int .i64 (Int.ofNat 1))], none⟩,
      ⟨(some 86), (.call 17), [.t 83, .t 85], none⟩,
      ⟨(some 14), (.pure .mov), [.t 86], none⟩] false) c5_30)
def c5_27 : C := (.keep [2, 3, 7, 11, 58, 59, 60] c5_29)
def c5_28 : C := (.cond (.t 81) (.region [
      ⟨(some 82), (.read (.load 2 true) []), [.t 13], none⟩,
      ⟨none, (.eff (.store 2)), [.t 11, .t 82], none⟩] false)
    .skip)
def c5_26 : C := (.seq (.seq (.region [
      ⟨(some 73), (.read (.load 2 true) []), [.t 13], none⟩,
      ⟨(some 74), (.call 16), [.t 73], none⟩,
      ⟨(some 75), (.pure .mov), [.t 74], none⟩,
      ⟨(some 76), (.pure (.fadd 0)), [.t 13], (some (75, true))⟩,
      ⟨(some 77), (.read (.load 1 false) []), [.t 76], (some (75, true))⟩,
      ⟨(some 78), (.pure (.fadd 0)), [.t 11], (some (75, true))⟩,
      ⟨(some 79), (.read (.load 1 false) []), [.t 78], (some (75, true))⟩,
      ⟨(some 80), (.pure (.bin .gtr)), [.t 77, .t 79], (some (75, true))⟩,
      ⟨(some 81), (.pure .pick), [.t 75, .t 80, .c (.bool false)], none⟩] false) c5_28) c5_27)
def c5_22 : C := (.seq (.region [
      ⟨(some 68), (.pure .mov), [.t 7], none⟩,
      ⟨(some 69), (.read (.load 2 true) []), [.t 13], none⟩,
      ⟨(some 70), (.pure (.build [(.int .i64 (Int.ofNat 0)), (.int .i64 (Int.ofNat 0)), (.int .i64 (Int.ofNat 0)), (.int .i64 (Int.ofNat 0)), (.int .i64 (Int.ofNat 0)), (.int .i64 (Int.ofNat 0)), (.int .i64 (Int.ofNat 0)), (.int .i64 (Int.ofNat 0)), (.int .i64 (Int.ofNat 0)), (.int .i64 (Int.ofNat 0)), (.bool false), (.int .i64 (Int.ofNat 0)), (.int .i64 (Int.ofNat 0)), (.int .i64 (Int.ofNat 0)), (.int .i64 (Int.ofNat 0)), (.int .i64 (Int.ofNat 0)), (.int .i64 (Int.ofNat 0)), (.int .i64 (Int.ofNat 0)), (.int .i64 (Int.ofNat 0)), (.int .i64 (Int.ofNat 0)), (.string ⟨⟨[]⟩⟩), (.int .i64 (Int.ofNat 0)), (.int .i64 (Int.ofNat 0)), (.int .i64 (Int.ofNat 0)), (.int .i64 (Int.ofNat 0)), (.slice none 0 0), (.slice none 0 0), (.int .i64 (Int.ofNat 0))] [(0, 1), (1, 1), (24, 2)])), [.c (.int .i64 (Int.ofNat 2)), .c (.int .i64 (Int.ofNat 102)), .t 69], none⟩,
      ⟨(some 71), (.pure .mov), [.t 2], none⟩,
      ⟨(some 72), (.call 11), [.t 68, .t 70, .t 71], none⟩] false) c5_26)
def c5_25 : C := .ret
def c5_24 : C := (.keep [6] c5_25)
def c5_23 : C := (.cond (.t 67) (.seq (.region [
      ⟨(some 6), (.pure .mov), [.c (.bool true)], none⟩] false) c5_24)
    .skip)
def c5_21 : C := (.seq (.seq (.region [
      ⟨(some 64), (.pure (.fadd 1)), [.t 13], none⟩,
      ⟨(some 65), (.read (.load 1 false) []), [.t 64], none⟩,
      ⟨(some 66), (.pure .lenS), [.t 65], none⟩,
      ⟨(some 67), (.pure (.bin .gtr)), [.t 66, .c (.int .i64 (Int.ofNat 20))], none⟩] false) c5_23) c5_22)
def c5_18 : C := (.seq (.block 1 (.seq (.region [
      ⟨(some 62), (.pure (.iaddS 2)), [.t 58, .t 60], none⟩,
      ⟨(some 63), (.read (.load 2 true) []), [.t 62], none⟩,
      ⟨(some 13), (.alloc (.alloc [(.int .i64 (Int.ofNat 0)), (.slice none 0 0)])), [], none⟩,
      ⟨none, (.eff (.store 2)), [.t 13, .t 63], none⟩] false) c5_21)) c5_20)
def c5_19 : C := (.exit 0)
def c5_17 : C := (.seq (.cond (.t 61) .skip
    (.keep [] c5_19)) c5_18)
def c5_15 : C := (.seq (.seq (.region [
      ⟨(some 61), (.pure (.bin .lss)), [.t 60, .t 59], none⟩] false) c5_17) c5_16)
def c5_14 : C := (.block 0 (.loop (some [2, 3, 7, 11, 58, 59, 60]) c5_15))
def c5_12 : C := (.seq (.seq (.region [
      ⟨(some 58), (.pure .mov), [.t 1], none⟩,
      ⟨(some 59), (.pure .lenS), [.t 58], none⟩,
      ⟨(some 60), (.pure .mov), [.c (.int .i64 (Int.ofNat 0))], none⟩] false) c5_14) c5_13)
def c5_7 : C := (.seq (.region [
      ⟨(some 57), (.pure (.build [(.int .i64 (Int.ofNat 0)), (.slice none 0 0)] [])), [], none⟩,
      ⟨(some 11), (.alloc (.alloc [(.int .i64 (Int.ofNat 0)), (.slice none 0 0)])), [], none⟩,
      ⟨none, (.eff (.store 2)), [.t 11, .t 57], none⟩] false) c5_12)
def c5_11 : C := .ret
def c5_10 : C := (.keep [6] c5_11)
def c5_9 : C := (.cond (.t 54) (.seq (.region [
      ⟨(some 55), (.pure .mov), [.t 10], none⟩,
      ⟨(some 56), (.pure (.bin .eql)), [.t 55, .c (.int .i64 (Int.ofNat 1))], none⟩,
      ⟨(some 6), (.pure .mov), [.t 56], none⟩] false) c5_10)
    .skip)
def c5_8 : C := (.seq (.region [
      ⟨(some 53), (.pure .mov), [.t 10], none⟩,
      ⟨(some 54), (.pure (.bin .neq)), [.t 53, .c (.int .i64 (Int.ofNat 0))], none⟩] false) c5_9)
def c5_6 : C := (.seq (.seq (.region [
      ⟨(some 47), (.pure .mov), [.t 7], none⟩,
      ⟨(some 48), (.read (.load 5 true) []), [.t 3], none⟩,
      ⟨(some 49), (.pure .mov), [.t 2], none⟩,
      ⟨(some 50), (.call 10), [.t 47, .t 48, .t 49], none⟩,
      ⟨(some 46), (.pure .mov), [.t 50], none⟩,
      ⟨(some 51), (.pure (.extract 0)), [.t 46], none⟩,
      ⟨(some 52), (.pure (.extract 1)), [.t 46], none⟩,
      ⟨(some 9), (.pure .mov), [.t 51], none⟩,
      ⟨(some 10), (.pure .mov), [.t 52], none⟩] false) c5_8) c5_7)
def c5_2 : C := (.seq (.region [
      ⟨(some 42), (.pure .mov), [.t 2], none⟩,
      ⟨(some 43), (.pure (.conv .u64)), [.t 42], none⟩,
      ⟨(some 44), (.pure (.bin .rem)), [.t 43, .c (.int .u64 (Int.ofNat 1099511627776))], none⟩,
      ⟨(some 45), (.pure (.conv .i64)), [.t 44], none⟩,
      ⟨(some 2), (.pure .mov), [.t 45], none⟩] false) c5_6)
def c5_5 : C := .ret
def c5_4 : C := (.keep [6] c5_5)
def c5_3 : C := (.cond (.t 36) (.seq (.region [
      ⟨(some 37), (.call 9), [], none⟩,
      ⟨(some 38), (.pure .mov), [.t 37], none⟩,
      ⟨(some 39), (.pure .mov), [.t 8], (some (38, true))⟩,
      ⟨(some 40), (.pure (.bin .eql)), [.t 39, .c (.int .i64 (Int.ofNat 0))], (some (38, true))⟩,
      ⟨(some 41), (.pure .pick), [.t 38, .t 40, .c (.bool false)], none⟩,
      ⟨(some 6), (.pure .mov), [.t 41], none⟩] false) c5_4)
    .skip)
def c5_1 : C := (.seq (.seq (.region [
      ⟨(some 20), (.call 9), [], none⟩,
      ⟨(some 21), (.pure (.un .not)), [.t 20], none⟩,
      ⟨(some 22), (.pure .mov), [.t 21], none⟩,
      ⟨(some 23), (.pure .mov), [.t 8], (some (22, false))⟩,
      ⟨(some 24), (.pure (.bin .neq)), [.t 23, .c (.int .i64 (Int.ofNat 0))], (some (22, false))⟩,
      ⟨(some 25), (.pure .pick), [.t 22, .c (.bool true), .t 24], none⟩,
      ⟨(some 26), (.pure .mov), [.t 25], none⟩,
      ⟨(some 27), (.pure .mov), [.t 1], (some (26, false))⟩,
      ⟨(some 28), (.pure .lenS), [.t 27], (some (26, false))⟩,
      ⟨(some 29), (.pure (.bin .gtr)), [.t 28, .c (.int .i64 (Int.ofNat 30))], (some (26, false))⟩,
      ⟨(some 30), (.pure .pick), [.t 26, .c (.bool true), .t 29], none⟩,
      ⟨(some 31), (.pure .mov), [.t 30], none⟩,
      ⟨(some 32), (.pure (.fadd 4)), [.t 3], (some (31, false))⟩,
      ⟨(some 33), (.read (.load 1 false) []), [.t 32], (some (31, false))⟩,
      ⟨(some 34), (.pure .lenStr), [.t 33], (some (31, false))⟩,
      ⟨(some 35), (.pure (.bin .gtr)), [.t 34, .c (.int .i64 (Int.ofNat 256))], (some (31, false))⟩,
      ⟨(some 36), (.pure .pick), [.t 31, .c (.bool true), .t 35], none⟩] false) c5_3) c5_2)
def c5_0 : C := (.seq (.region [
      ⟨(some 17), (.call 8), [.c (.int .i64 (Int.ofNat 102))], none⟩,
      ⟨(some 16), (.pure .mov), [.t 17], none⟩,
      ⟨(some 18), (.pure (.extract 0)), [.t 16], none⟩,
      ⟨(some 19), (.pure (.extract 1)), [.t 16], none⟩,
      ⟨(some 7), (.pure .mov), [.t 18], none⟩,
      ⟨(some 8), (.pure .mov), [.t 19], none⟩] false) c5_1)
def k5 : DFn := ⟨238, (.seq (.region [
      ⟨(some 3), (.alloc .box), [.t 0], none⟩,
      ⟨(some 6), (.pure .mov), [.c (.bool false)], none⟩] false) c5_0), [.tmp 6]⟩
theorem c5 : (match Try.prog.funcs[5]? with | some fn => compileFn Try.prog 0 [none, none, none, none, none, some [6], none, none, none, none, none, some [6], none, some [], none, some [2, 3, 7, 11, 58, 59, 60], none, none, some [], some [2, 3, 7, 11, 58, 59, 60], none, none, none, none, some [6], none, some [2, 3, 7, 11, 58, 59, 60], none, none, none, none, none, some [6], none, none, none, none, none, some [6], some [2, 3, 7, 11, 58, 59, 60], none, none, none, some [6], none, none, none, none, none, some [6], none, none, none, some [6], none, none, some [6], none, some [6]] fn | none => none) = some k5 := by kernel_rfl
def q5_0 (tb : Nat → Option DFn) (nv : CallF) (Q : Value → Heap → Prop) : Kont := kSeq (fun wf H => wC tb nv c5_13 wf H (kFn [.tmp 6] Q)) (kFn [.tmp 6] Q)
def q5_1 (tb : Nat → Option DFn) (nv : CallF) (Q : Value → Heap → Prop) : Kont := kBlk 0 (q5_0 tb nv Q)
def q5_2 (tb : Nat → Option DFn) (nv : CallF) (K : Kont) : Kont := kSeq (fun wf H => wC tb nv c5_16 wf H K) K
def q5_3 (tb : Nat → Option DFn) (nv : CallF) (K : Kont) : Kont := kSeq (fun wf H => wC tb nv c5_20 wf H (q5_2 tb nv K)) (q5_2 tb nv K)
def q5_4 (tb : Nat → Option DFn) (nv : CallF) (K : Kont) : Kont := kBlk 1 (q5_3 tb nv K)
def w5_29 (tb : Nat → Option DFn) (nv : CallF) (t2 t3 t7 t11 t58 t59 t60 : Value) (H : Heap) (K : Kont) : Prop := wC tb nv c5_29 (mkW [(2, t2), (3, t3), (7, t7), (11, t11), (58, t58), (59, t59), (60, t60)]) H (q5_4 tb nv K)
def w5_61 (tb : Nat → Option DFn) (nv : CallF) (H : Heap) (Q : Value → Heap → Prop) : Prop := wC tb nv c5_61 (mkW []) H (kFn [.tmp 6] Q)
def w5_59 (tb : Nat → Option DFn) (nv : CallF) (t2 t3 t7 t11 t58 t59 t60 : Value) (H : Heap) (K : Kont) : Prop := wC tb nv c5_59 (mkW [(2, t2), (3, t3), (7, t7), (11, t11), (58, t58), (59, t59), (60, t60)]) H (q5_2 tb nv K)
theorem e5 (tb : Nat → Option DFn) (nv : CallF) (a0 a1 a2 : Value) (H : Heap) (Q : Value → Heap → Prop) : wFn tb nv k5 [a0, a1, a2] H Q = (
    wA .box [a0] H fun x0 H1 =>
    Ev tb nv 8 [(.int .i64 102)] H1 fun x2 H3 =>
    wP (.extract 0) [x2] fun x4 =>
    wP (.extract 1) [x2] fun x5 =>
    Ev tb nv 9 [] H3 fun x6 H7 =>
    wP (.un .not) [x6] fun x8 =>
    asB x8 fun b9 => onB b9 (Ev tb nv 9 [] H7 fun x10 H11 =>
    asB x10 fun b12 => onB b12 (wP (.bin .eql) [x5, (.int .i64 0)] fun x13 =>
    atK (Q x13 H11))
    (atK (Q (.bool false) H11)))
    (wP (.bin .neq) [x5, (.int .i64 0)] fun x14 =>
    asB x14 fun b15 => onB b15 (Ev tb nv 9 [] H7 fun x16 H17 =>
    asB x16 fun b18 => onB b18 (wP (.bin .eql) [x5, (.int .i64 0)] fun x19 =>
    atK (Q x19 H17))
    (atK (Q (.bool false) H17)))
    (wP .lenS [a1] fun x20 =>
    wP (.bin .gtr) [x20, (.int .i64 30)] fun x21 =>
    asB x21 fun b22 => onB b22 (Ev tb nv 9 [] H7 fun x23 H24 =>
    asB x23 fun b25 => onB b25 (wP (.bin .eql) [x5, (.int .i64 0)] fun x26 =>
    atK (Q x26 H24))
    (atK (Q (.bool false) H24)))
    (wP (.fadd 4) [x0] fun x27 =>
    wR (.load 1 false) [x27] H7 fun x28 =>
    wP .lenStr [x28] fun x29 =>
    wP (.bin .gtr) [x29, (.int .i64 256)] fun x30 =>
    asB x30 fun b31 => onB b31 (Ev tb nv 9 [] H7 fun x32 H33 =>
    asB x32 fun b34 => onB b34 (wP (.bin .eql) [x5, (.int .i64 0)] fun x35 =>
    atK (Q x35 H33))
    (atK (Q (.bool false) H33)))
    (wP (.conv .u64) [a2] fun x36 =>
    wP (.bin .rem) [x36, (.int .u64 1099511627776)] fun x37 =>
    wP (.conv .i64) [x37] fun x38 =>
    wR (.load 5 true) [x0] H7 fun x39 =>
    Ev tb nv 10 [x4, x39, x38] H7 fun x40 H41 =>
    wP (.extract 0) [x40] fun x42 =>
    wP (.extract 1) [x40] fun x43 =>
    wP (.bin .neq) [x43, (.int .i64 0)] fun x44 =>
    asB x44 fun b45 => onB b45 (wP (.bin .eql) [x43, (.int .i64 1)] fun x46 =>
    atK (Q x46 H41))
    (wP (.build [(.int .i64 0), (.slice none 0 0)] []) [] fun x47 =>
    wA (.alloc [(.int .i64 0), (.slice none 0 0)]) [] H41 fun x48 H49 =>
    wE (.store 2) [x48, x47] H49 fun x50 H51 =>
    wP .lenS [a1] fun x52 =>
    wLoop tb nv c5_15 [2, 3, 7, 11, 58, 59, 60] (mkW [(2, x38), (3, x0), (7, x4), (11, x48), (58, a1), (59, x52), (60, (.int .i64 0))]) H51 (q5_1 tb nv Q))))))) := by kernel_rfl
theorem l5_15 (tb : Nat → Option DFn) (nv : CallF) (t2 t3 t7 t11 t58 t59 t60 : Value) (H : Heap) (K : Kont) : wC tb nv c5_15 (mkW [(2, t2), (3, t3), (7, t7), (11, t11), (58, t58), (59, t59), (60, t60)]) H K = (
    wP (.bin .lss) [t60, t59] fun x53 =>
    asB x53 fun b54 => onB b54 (wP (.iaddS 2) [t58, t60] fun x55 =>
    wR (.load 2 true) [x55] H fun x56 =>
    wA (.alloc [(.int .i64 0), (.slice none 0 0)]) [] H fun x57 H58 =>
    wE (.store 2) [x57, x56] H58 fun x59 H60 =>
    wP (.fadd 1) [x57] fun x61 =>
    wR (.load 1 false) [x61] H60 fun x62 =>
    wP .lenS [x62] fun x63 =>
    wP (.bin .gtr) [x63, (.int .i64 20)] fun x64 =>
    asB x64 fun b65 => onB b65 (atK (K .ret (mkW [(6, (.bool true))]) H60))
    (wR (.load 2 true) [x57] H60 fun x66 =>
    wP (.build [(.int .i64 0), (.int .i64 0), (.int .i64 0), (.int .i64 0), (.int .i64 0), (.int .i64 0), (.int .i64 0), (.int .i64 0), (.int .i64 0), (.int .i64 0), (.bool false), (.int .i64 0), (.int .i64 0), (.int .i64 0), (.int .i64 0), (.int .i64 0), (.int .i64 0), (.int .i64 0), (.int .i64 0), (.int .i64 0), (.string ⟨⟨[]⟩⟩), (.int .i64 0), (.int .i64 0), (.int .i64 0), (.int .i64 0), (.slice none 0 0), (.slice none 0 0), (.int .i64 0)] [(0, 1), (1, 1), (24, 2)]) [(.int .i64 2), (.int .i64 102), x66] fun x67 =>
    Ev tb nv 11 [t7, x67, t2] H60 fun x68 H69 =>
    wR (.load 2 true) [x57] H69 fun x70 =>
    Ev tb nv 16 [x70] H69 fun x71 H72 =>
    asB x71 fun b73 => onB b73 (wP (.fadd 0) [x57] fun x74 =>
    wR (.load 1 false) [x74] H72 fun x75 =>
    wP (.fadd 0) [t11] fun x76 =>
    wR (.load 1 false) [x76] H72 fun x77 =>
    wP (.bin .gtr) [x75, x77] fun x78 =>
    asB x78 fun b79 => onB b79 (wR (.load 2 true) [x57] H72 fun x80 =>
    wE (.store 2) [t11, x80] H72 fun x81 H82 =>
    atK (w5_29 tb nv t2 t3 t7 t11 t58 t59 t60 H82 K))
    (atK (w5_29 tb nv t2 t3 t7 t11 t58 t59 t60 H72 K)))
    (atK (w5_29 tb nv t2 t3 t7 t11 t58 t59 t60 H72 K))))
    (atK (K (.exit 0) (mkW []) H))) := by kernel_rfl
theorem x5_15_0 (tb : Nat → Option DFn) (nv : CallF) (t6 : Value) (H : Heap) (Q : Value → Heap → Prop) : (q5_1 tb nv Q) .ret (mkW [(6, t6)]) H = (
    Q t6 H) := by kernel_rfl
theorem x5_15_1 (tb : Nat → Option DFn) (nv : CallF) (H : Heap) (Q : Value → Heap → Prop) : (q5_1 tb nv Q) (.exit 0) (mkW []) H = (
    atK (w5_61 tb nv  H Q)) := by kernel_rfl
theorem e5_29 (tb : Nat → Option DFn) (nv : CallF) (t2 t3 t7 t11 t58 t59 t60 : Value) (H : Heap) (K : Kont) : w5_29 tb nv t2 t3 t7 t11 t58 t59 t60 H K = (
    wP (.bin .add) [t2, (.int .i64 1)] fun x83 =>
    Ev tb nv 17 [t7, x83] H fun x84 H85 =>
    Ev tb nv 19 [t7] H85 fun x86 H87 =>
    wR (.load 2 true) [t11] H87 fun x88 =>
    Ev tb nv 18 [x86, x88] H87 fun x89 H90 =>
    wP (.un .not) [x89] fun x91 =>
    wChk [H85, H85, H87, H87, H90, H90] [⟨(.load 2 true), [t11], x88, [1]⟩] (asB x91 fun b92 => onB b92 (atK (K .ret (mkW [(6, (.bool false))]) H90))
    (wP (.fadd 1) [t11] fun x93 =>
    wR (.load 1 false) [x93] H90 fun x94 =>
    wP .lenS [x94] fun x95 =>
    wP (.bin .eql) [x95, (.int .i64 0)] fun x96 =>
    asB x96 fun b97 => onB b97 (wP .lenS [x84] fun x98 =>
    wP (.bin .neq) [x98, (.int .i64 2)] fun x99 =>
    asB x99 fun b100 => onB b100 (atK (K .ret (mkW [(6, (.bool false))]) H90))
    (wP (.iaddS 28) [x84, (.int .i64 0)] fun x101 =>
    wP (.fadd 0) [x101] fun x102 =>
    wR (.load 1 false) [x102] H90 fun x103 =>
    wP (.bin .neq) [x103, (.int .i64 15)] fun x104 =>
    asB x104 fun b105 => onB b105 (atK (K .ret (mkW [(6, (.bool false))]) H90))
    (wP (.iaddS 28) [x84, (.int .i64 1)] fun x106 =>
    wP (.fadd 0) [x106] fun x107 =>
    wR (.load 1 false) [x107] H90 fun x108 =>
    wP (.bin .neq) [x108, (.int .i64 15)] fun x109 =>
    asB x109 fun b110 => onB b110 (atK (K .ret (mkW [(6, (.bool false))]) H90))
    (atK (atK (w5_59 tb nv t2 t3 t7 t11 t58 t59 t60 H90 K))))))
    (wP .lenS [x84] fun x111 =>
    wP (.bin .neq) [x111, (.int .i64 3)] fun x112 =>
    asB x112 fun b113 => onB b113 (atK (K .ret (mkW [(6, (.bool false))]) H90))
    (wP (.iaddS 28) [x84, (.int .i64 1)] fun x114 =>
    wP (.fadd 0) [x114] fun x115 =>
    wR (.load 1 false) [x115] H90 fun x116 =>
    wP (.bin .neq) [x116, (.int .i64 15)] fun x117 =>
    asB x117 fun b118 => onB b118 (atK (K .ret (mkW [(6, (.bool false))]) H90))
    (wP (.iaddS 28) [x84, (.int .i64 2)] fun x119 =>
    wP (.fadd 0) [x119] fun x120 =>
    wR (.load 1 false) [x120] H90 fun x121 =>
    wP (.bin .neq) [x121, (.int .i64 13)] fun x122 =>
    asB x122 fun b123 => onB b123 (atK (K .ret (mkW [(6, (.bool false))]) H90))
    (wP (.iaddS 28) [x84, (.int .i64 2)] fun x124 =>
    wP (.fadd 1) [x124] fun x125 =>
    wR (.load 1 false) [x125] H90 fun x126 =>
    wP (.fadd 1) [t11] fun x127 =>
    wR (.load 1 false) [x127] H90 fun x128 =>
    wP (.fadd 1) [t11] fun x129 =>
    wR (.load 1 false) [x129] H90 fun x130 =>
    wP .lenS [x130] fun x131 =>
    wP (.bin .sub) [x131, (.int .i64 1)] fun x132 =>
    wP (.iaddS 3) [x128, x132] fun x133 =>
    wP (.fadd 0) [x133] fun x134 =>
    wP (.fadd 0) [x134] fun x135 =>
    wR (.load 1 false) [x135] H90 fun x136 =>
    wP (.bin .neq) [x126, x136] fun x137 =>
    asB x137 fun b138 => onB b138 (atK (K .ret (mkW [(6, (.bool false))]) H90))
    (wP (.iaddS 28) [x84, (.int .i64 0)] fun x139 =>
    wR (.load 28 true) [x139] H90 fun x140 =>
    wA (.alloc [(.int .i64 0), (.int .i64 0), (.int .i64 0), (.int .i64 0), (.int .i64 0), (.int .i64 0), (.int .i64 0), (.int .i64 0), (.int .i64 0), (.int .i64 0), (.bool false), (.int .i64 0), (.int .i64 0), (.int .i64 0), (.int .i64 0), (.int .i64 0), (.int .i64 0), (.int .i64 0), (.int .i64 0), (.int .i64 0), (.string ⟨⟨[]⟩⟩), (.int .i64 0), (.int .i64 0), (.int .i64 0), (.int .i64 0), (.slice none 0 0), (.slice none 0 0), (.int .i64 0)]) [] H90 fun x141 H142 =>
    wE (.store 28) [x141, x140] H142 fun x143 H144 =>
    wP (.fadd 0) [t3] fun x145 =>
    wR (.load 1 false) [x145] H144 fun x146 =>
    wP (.bin .eql) [x146, (.int .i64 3)] fun x147 =>
    asB x147 fun b148 => onB b148 (wP (.fadd 0) [x141] fun x149 =>
    wR (.load 1 false) [x149] H144 fun x150 =>
    wP (.bin .neq) [x150, (.int .i64 9)] fun x151 =>
    asB x151 fun b152 => onB b152 (atK (K .ret (mkW [(6, (.bool false))]) H144))
    (wP (.fadd 6) [x141] fun x153 =>
    wR (.load 1 false) [x153] H144 fun x154 =>
    wP (.bin .neq) [x154, (.int .i64 1)] fun x155 =>
    asB x155 fun b156 => onB b156 (atK (K .ret (mkW [(6, (.bool false))]) H144))
    (wP (.fadd 8) [x141] fun x157 =>
    wR (.load 1 false) [x157] H144 fun x158 =>
    wP (.fadd 1) [t3] fun x159 =>
    wR (.load 1 false) [x159] H144 fun x160 =>
    wP (.bin .neq) [x158, x160] fun x161 =>
    asB x161 fun b162 => onB b162 (atK (K .ret (mkW [(6, (.bool false))]) H144))
    (wP (.fadd 1) [x141] fun x163 =>
    wR (.load 1 false) [x163] H144 fun x164 =>
    wP (.fadd 1) [t11] fun x165 =>
    wR (.load 1 false) [x165] H144 fun x166 =>
    wP (.fadd 3) [t3] fun x167 =>
    wR (.load 1 false) [x167] H144 fun x168 =>
    wP .max [x168, (.int .i64 0)] fun x169 =>
    wP (.fadd 1) [t11] fun x170 =>
    wR (.load 1 false) [x170] H144 fun x171 =>
    wP .lenS [x171] fun x172 =>
    wP (.bin .rem) [x169, x172] fun x173 =>
    wP (.iaddS 3) [x166, x173] fun x174 =>
    wP (.fadd 0) [x174] fun x175 =>
    wP (.fadd 0) [x175] fun x176 =>
    wR (.load 1 false) [x176] H144 fun x177 =>
    wP (.bin .neq) [x164, x177] fun x178 =>
    asB x178 fun b179 => onB b179 (atK (K .ret (mkW [(6, (.bool false))]) H144))
    (atK (w5_59 tb nv t2 t3 t7 t11 t58 t59 t60 H144 K))))))
    (wP (.bin .eql) [x146, (.int .i64 1)] fun x180 =>
    asB x180 fun b181 => onB b181 (wP (.fadd 0) [x141] fun x182 =>
    wR (.load 1 false) [x182] H144 fun x183 =>
    wP (.bin .neq) [x183, (.int .i64 7)] fun x184 =>
    asB x184 fun b185 => onB b185 (atK (K .ret (mkW [(6, (.bool false))]) H144))
    (wP (.fadd 1) [x141] fun x186 =>
    wR (.load 1 false) [x186] H144 fun x187 =>
    wP (.fadd 1) [t11] fun x188 =>
    wR (.load 1 false) [x188] H144 fun x189 =>
    wP (.iaddS 3) [x189, (.int .i64 0)] fun x190 =>
    wP (.fadd 0) [x190] fun x191 =>
    wP (.fadd 0) [x191] fun x192 =>
    wR (.load 1 false) [x192] H144 fun x193 =>
    wP (.bin .neq) [x187, x193] fun x194 =>
    asB x194 fun b195 => onB b195 (atK (K .ret (mkW [(6, (.bool false))]) H144))
    (wP (.fadd 11) [x141] fun x196 =>
    wR (.load 10 true) [x196] H144 fun x197 =>
    wP (.fadd 1) [t3] fun x198 =>
    wR (.load 1 false) [x198] H144 fun x199 =>
    wP (.fadd 2) [t3] fun x200 =>
    wR (.load 1 false) [x200] H144 fun x201 =>
    wP (.fadd 4) [t3] fun x202 =>
    wR (.load 1 false) [x202] H144 fun x203 =>
    wP (.build [(.int .i64 0), (.int .i64 0), (.int .i64 0), (.int .i64 0), (.int .i64 0), (.int .i64 0), (.int .i64 0), (.int .i64 0), (.int .i64 0), (.string ⟨⟨[]⟩⟩)] [(0, 1), (1, 1), (2, 1), (3, 1), (6, 1), (9, 1)]) [(.int .i64 1), (.int .i64 102), (.int .i64 1), x199, x201, x203] fun x204 =>
    wP (.aggEq true [.i, .i, .i, .i, .i, .i, .i, .i, .i, .s]) [x197, x204] fun x205 =>
    asB x205 fun b206 => onB b206 (atK (K .ret (mkW [(6, (.bool false))]) H144))
    (atK (w5_59 tb nv t2 t3 t7 t11 t58 t59 t60 H144 K)))))
    (wP (.fadd 0) [x141] fun x207 =>
    wR (.load 1 false) [x207] H144 fun x208 =>
    wP (.bin .neq) [x208, (.int .i64 7)] fun x209 =>
    asB x209 fun b210 => onB b210 (atK (K .ret (mkW [(6, (.bool false))]) H144))
    (wP (.fadd 1) [x141] fun x211 =>
    wR (.load 1 false) [x211] H144 fun x212 =>
    wP (.fadd 1) [t11] fun x213 =>
    wR (.load 1 false) [x213] H144 fun x214 =>
    wP (.iaddS 3) [x214, (.int .i64 0)] fun x215 =>
    wP (.fadd 0) [x215] fun x216 =>
    wP (.fadd 0) [x216] fun x217 =>
    wR (.load 1 false) [x217] H144 fun x218 =>
    wP (.bin .neq) [x212, x218] fun x219 =>
    asB x219 fun b220 => onB b220 (atK (K .ret (mkW [(6, (.bool false))]) H144))
    (wP (.fadd 11) [x141] fun x221 =>
    wR (.load 10 true) [x221] H144 fun x222 =>
    wP (.fadd 1) [t3] fun x223 =>
    wR (.load 1 false) [x223] H144 fun x224 =>
    wP (.build [(.int .i64 0), (.int .i64 0), (.int .i64 0), (.int .i64 0), (.int .i64 0), (.int .i64 0), (.int .i64 0), (.int .i64 0), (.int .i64 0), (.string ⟨⟨[]⟩⟩)] [(0, 1), (1, 1), (2, 1), (3, 1)]) [(.int .i64 2), (.int .i64 102), (.int .i64 1), x224] fun x225 =>
    wP (.aggEq true [.i, .i, .i, .i, .i, .i, .i, .i, .i, .s]) [x222, x225] fun x226 =>
    asB x226 fun b227 => onB b227 (atK (K .ret (mkW [(6, (.bool false))]) H144))
    (atK (w5_59 tb nv t2 t3 t7 t11 t58 t59 t60 H144 K)))))))))))))) := by kernel_rfl
theorem e5_61 (tb : Nat → Option DFn) (nv : CallF) (H : Heap) (Q : Value → Heap → Prop) : w5_61 tb nv  H Q = (
    atK (Q (.bool true) H)) := by kernel_rfl
theorem e5_59 (tb : Nat → Option DFn) (nv : CallF) (t2 t3 t7 t11 t58 t59 t60 : Value) (H : Heap) (K : Kont) : w5_59 tb nv t2 t3 t7 t11 t58 t59 t60 H K = (
    wP (.bin .add) [t60, (.int .i64 1)] fun x228 =>
    atK (K .normal (mkW [(2, t2), (3, t3), (7, t7), (11, t11), (58, t58), (59, t59), (60, x228)]) H)) := by kernel_rfl

/-- tompion/tompionlaw17.ClientQuiet -/
def c6_60 : C := .ret
def c6_59 : C := (.keep [4] c6_60)
def c6_58 : C := (.seq (.region [
      ⟨(some 98), (.pure .mov), [.t 16], none⟩,
      ⟨(some 99), (.pure (.un .not)), [.t 98], none⟩,
      ⟨(some 4), (.pure .mov), [.t 99], none⟩] false) c6_59)
def c6_57 : C := (.seq (.region [
      ⟨(some 94), (.pure .mov), [.t 5], none⟩,
      ⟨(some 95), (.call 12), [.t 94], none⟩,
      ⟨(some 93), (.pure .mov), [.t 95], none⟩,
      ⟨(some 96), (.pure (.extract 0)), [.t 93], none⟩,
      ⟨(some 97), (.pure (.extract 1)), [.t 93], none⟩,
      ⟨(some 15), (.pure .mov), [.t 96], none⟩,
      ⟨(some 16), (.pure .mov), [.t 97], none⟩] false) c6_58)
def c6_44 : C := (.keep [5] c6_57)
def c6_56 : C := .skip
def c6_47 : C := (.keep [5, 83, 84, 85] c6_56)
def c6_51 : C := (.region [
      ⟨(some 92), (.pure (.bin .add)), [.t 85, .c (.int .i64 (Int.ofNat 1))], none⟩,
      ⟨(some 85), (.pure .mov), [.t 92], none⟩] false)
def c6_55 : C := .ret
def c6_54 : C := (.keep [4] c6_55)
def c6_53 : C := (.cond (.t 91) (.seq (.region [
      ⟨(some 4), (.pure .mov), [.c (.bool false)], none⟩] false) c6_54)
    .skip)
def c6_52 : C := (.seq (.region [
      ⟨(some 89), (.pure (.fadd 1)), [.t 14], none⟩,
      ⟨(some 90), (.read (.load 1 false) []), [.t 89], none⟩,
      ⟨(some 91), (.pure (.bin .neq)), [.t 90, .c (.int .i64 (Int.ofNat 100))], none⟩] false) c6_53)
def c6_49 : C := (.seq (.block 5 (.seq (.region [
      ⟨(some 87), (.pure (.iaddS 6)), [.t 83, .t 85], none⟩,
      ⟨(some 88), (.read (.load 6 true) []), [.t 87], none⟩,
      ⟨(some 14), (.alloc (.alloc [(.int .i64 (Int.ofNat 0)), (.int .i64 (Int.ofNat 0)), (.int .i64 (Int.ofNat 0)), (.int .i64 (Int.ofNat 0)), (.int .i64 (Int.ofNat 0)), (.int .i64 (Int.ofNat 0))])), [], none⟩,
      ⟨none, (.eff (.store 6)), [.t 14, .t 88], none⟩] false) c6_52)) c6_51)
def c6_50 : C := (.exit 4)
def c6_48 : C := (.seq (.cond (.t 86) .skip
    (.keep [5] c6_50)) c6_49)
def c6_46 : C := (.seq (.seq (.region [
      ⟨(some 86), (.pure (.bin .lss)), [.t 85, .t 84], none⟩] false) c6_48) c6_47)
def c6_45 : C := (.block 4 (.loop (some [5, 83, 84, 85]) c6_46))
def c6_43 : C := (.seq (.seq (.region [
      ⟨(some 82), (.pure .mov), [.t 5], none⟩,
      ⟨(some 83), (.call 15), [.t 82], none⟩,
      ⟨(some 84), (.pure .lenS), [.t 83], none⟩,
      ⟨(some 85), (.pure .mov), [.c (.int .i64 (Int.ofNat 0))], none⟩] false) c6_45) c6_44)
def c6_6 : C := (.keep [5] c6_43)
def c6_42 : C := .skip
def c6_9 : C := (.keep [1, 5, 37, 38, 39] c6_42)
def c6_41 : C := (.region [
      ⟨(some 81), (.pure (.bin .add)), [.t 39, .c (.int .i64 (Int.ofNat 1))], none⟩,
      ⟨(some 39), (.pure .mov), [.t 81], none⟩] false)
def c6_13 : C := (.keep [1, 5, 37, 38, 39] c6_41)
def c6_40 : C := .ret
def c6_39 : C := (.keep [4] c6_40)
def c6_38 : C := (.cond (.t 80) (.seq (.region [
      ⟨(some 4), (.pure .mov), [.c (.bool false)], none⟩] false) c6_39)
    .skip)
def c6_37 : C := (.seq (.region [
      ⟨(some 80), (.pure .mov), [.t 12], none⟩] false) c6_38)
def c6_36 : C := (.seq (.region [
      ⟨(some 76), (.pure .mov), [.t 5], none⟩,
      ⟨(some 77), (.call 13), [.t 76], none⟩,
      ⟨(some 75), (.pure .mov), [.t 77], none⟩,
      ⟨(some 78), (.pure (.extract 0)), [.t 75], none⟩,
      ⟨(some 79), (.pure (.extract 1)), [.t 75], none⟩,
      ⟨(some 11), (.alloc (.alloc [(.int .i64 (Int.ofNat 0)), (.int .i64 (Int.ofNat 0)), (.int .i64 (Int.ofNat 0)), (.int .i64 (Int.ofNat 0)), (.int .i64 (Int.ofNat 0)), (.int .i64 (Int.ofNat 0)), (.int .i64 (Int.ofNat 0)), (.int .i64 (Int.ofNat 0)), (.string ⟨⟨[]⟩⟩), (.int .i64 (Int.ofNat 0)), (.int .i64 (Int.ofNat 0)), (.int .i64 (Int.ofNat 0)), (.int .i64 (Int.ofNat 0))])), [], none⟩,
      ⟨none, (.eff (.store 13)), [.t 11, .t 78], none⟩,
      ⟨(some 12), (.pure .mov), [.t 79], none⟩] false) c6_37)
def c6_23 : C := (.keep [1, 5, 37, 38, 39] c6_36)
def c6_35 : C := .skip
def c6_26 : C := (.keep [1, 5, 37, 38, 39, 54, 55, 56] c6_35)
def c6_30 : C := (.region [
      ⟨(some 74), (.pure (.bin .add)), [.t 56, .c (.int .i64 (Int.ofNat 1))], none⟩,
      ⟨(some 56), (.pure .mov), [.t 74], none⟩] false)
def c6_34 : C := .ret
def c6_33 : C := (.keep [4] c6_34)
def c6_32 : C := (.cond (.t 73) (.seq (.region [
      ⟨(some 4), (.pure .mov), [.c (.bool false)], none⟩] false) c6_33)
    .skip)
def c6_31 : C := (.seq (.region [
      ⟨(some 60), (.pure (.fadd 0)), [.t 10], none⟩,
      ⟨(some 61), (.read (.load 1 false) []), [.t 60], none⟩,
      ⟨(some 62), (.pure (.bin .neq)), [.t 61, .c (.int .i64 (Int.ofNat 15))], none⟩,
      ⟨(some 63), (.pure .mov), [.t 62], none⟩,
      ⟨(some 64), (.pure (.fadd 0)), [.t 10], (some (63, true))⟩,
      ⟨(some 65), (.read (.load 1 false) []), [.t 64], (some (63, true))⟩,
      ⟨(some 66), (.pure (.bin .neq)), [.t 65, .c (.int .i64 (Int.ofNat 13))], (some (63, true))⟩,
      ⟨(some 67), (.pure .pick), [.t 63, .t 66, .c (.bool false)], none⟩,
      ⟨(some 68), (.pure .mov), [.t 67], none⟩,
      ⟨(some 69), (.pure (.fadd 2)), [.t 10], (some (68, false))⟩,
      ⟨(some 70), (.pure (.fadd 0)), [.t 69], (some (68, false))⟩,
      ⟨(some 71), (.read (.load 1 false) []), [.t 70], (some (68, false))⟩,
      ⟨(some 72), (.pure (.bin .neq)), [.t 71, .c (.int .i64 (Int.ofNat 100))], (some (68, false))⟩,
      ⟨(some 73), (.pure .pick), [.t 68, .c (.bool true), .t 72], none⟩] false) c6_32)
def c6_28 : C := (.seq (.block 3 (.seq (.region [
      ⟨(some 58), (.pure (.iaddS 28)), [.t 54, .t 56], none⟩,
      ⟨(some 59), (.read (.load 28 true) []), [.t 58], none⟩,
      ⟨(some 10), (.alloc (.alloc [(.int .i64 (Int.ofNat 0)), (.int .i64 (Int.ofNat 0)), (.int .i64 (Int.ofNat 0)), (.int .i64 (Int.ofNat 0)), (.int .i64 (Int.ofNat 0)), (.int .i64 (Int.ofNat 0)), (.int .i64 (Int.ofNat 0)), (.int .i64 (Int.ofNat 0)), (.int .i64 (Int.ofNat 0)), (.int .i64 (Int.ofNat 0)), (.bool false), (.int .i64 (Int.ofNat 0)), (.int .i64 (Int.ofNat 0)), (.int .i64 (Int.ofNat 0)), (.int .i64 (Int.ofNat 0)), (.int .i64 (Int.ofNat 0)), (.int .i64 (Int.ofNat 0)), (.int .i64 (Int.ofNat 0)), (.int .i64 (Int.ofNat 0)), (.int .i64 (Int.ofNat 0)), (.string ⟨⟨[]⟩⟩), (.int .i64 (Int.ofNat 0)), (.int .i64 (Int.ofNat 0)), (.int .i64 (Int.ofNat 0)), (.int .i64 (Int.ofNat 0)), (.slice none 0 0), (.slice none 0 0), (.int .i64 (Int.ofNat 0))])), [], none⟩,
      ⟨none, (.eff (.store 28)), [.t 10, .t 59], none⟩] false) c6_31)) c6_30)
def c6_29 : C := (.exit 2)
def c6_27 : C := (.seq (.cond (.t 57) .skip
    (.keep [1, 5, 37, 38, 39] c6_29)) c6_28)
def c6_25 : C := (.seq (.seq (.region [
      ⟨(some 57), (.pure (.bin .lss)), [.t 56, .t 55], none⟩] false) c6_27) c6_26)
def c6_24 : C := (.block 2 (.loop (some [1, 5, 37, 38, 39, 54, 55, 56]) c6_25))
def c6_19 : C := (.seq (.seq (.region [
      ⟨(some 52), (.pure .mov), [.t 5], none⟩,
      ⟨(some 53), (.pure .mov), [.t 1], none⟩,
      ⟨(some 54), (.call 17), [.t 52, .t 53], none⟩,
      ⟨(some 55), (.pure .lenS), [.t 54], none⟩,
      ⟨(some 56), (.pure .mov), [.c (.int .i64 (Int.ofNat 0))], none⟩] false) c6_24) c6_23)
def c6_22 : C := .ret
def c6_21 : C := (.keep [4] c6_22)
def c6_20 : C := (.cond (.t 51) (.seq (.region [
      ⟨(some 4), (.pure .mov), [.c (.bool false)], none⟩] false) c6_21)
    .skip)
def c6_15 : C := (.seq (.seq (.region [
      ⟨(some 46), (.pure .mov), [.t 5], none⟩,
      ⟨(some 47), (.read (.load 28 true) []), [.t 8], none⟩,
      ⟨(some 48), (.pure .mov), [.t 1], none⟩,
      ⟨(some 49), (.call 11), [.t 46, .t 47, .t 48], none⟩,
      ⟨(some 50), (.pure .lenS), [.t 49], none⟩,
      ⟨(some 51), (.pure (.bin .gtr)), [.t 50, .c (.int .i64 (Int.ofNat 0))], none⟩] false) c6_20) c6_19)
def c6_18 : C := .ret
def c6_17 : C := (.keep [4] c6_18)
def c6_16 : C := (.cond (.t 45) (.seq (.region [
      ⟨(some 4), (.pure .mov), [.c (.bool true)], none⟩] false) c6_17)
    .skip)
def c6_14 : C := (.seq (.seq (.region [
      ⟨(some 43), (.read (.load 28 true) []), [.t 8], none⟩,
      ⟨(some 44), (.call 20), [.t 43], none⟩,
      ⟨(some 45), (.pure (.un .not)), [.t 44], none⟩] false) c6_16) c6_15)
def c6_11 : C := (.seq (.block 1 (.seq (.region [
      ⟨(some 41), (.pure (.iaddS 28)), [.t 37, .t 39], none⟩,
      ⟨(some 42), (.read (.load 28 true) []), [.t 41], none⟩,
      ⟨(some 8), (.alloc (.alloc [(.int .i64 (Int.ofNat 0)), (.int .i64 (Int.ofNat 0)), (.int .i64 (Int.ofNat 0)), (.int .i64 (Int.ofNat 0)), (.int .i64 (Int.ofNat 0)), (.int .i64 (Int.ofNat 0)), (.int .i64 (Int.ofNat 0)), (.int .i64 (Int.ofNat 0)), (.int .i64 (Int.ofNat 0)), (.int .i64 (Int.ofNat 0)), (.bool false), (.int .i64 (Int.ofNat 0)), (.int .i64 (Int.ofNat 0)), (.int .i64 (Int.ofNat 0)), (.int .i64 (Int.ofNat 0)), (.int .i64 (Int.ofNat 0)), (.int .i64 (Int.ofNat 0)), (.int .i64 (Int.ofNat 0)), (.int .i64 (Int.ofNat 0)), (.int .i64 (Int.ofNat 0)), (.string ⟨⟨[]⟩⟩), (.int .i64 (Int.ofNat 0)), (.int .i64 (Int.ofNat 0)), (.int .i64 (Int.ofNat 0)), (.int .i64 (Int.ofNat 0)), (.slice none 0 0), (.slice none 0 0), (.int .i64 (Int.ofNat 0))])), [], none⟩,
      ⟨none, (.eff (.store 28)), [.t 8, .t 42], none⟩] false) c6_14)) c6_13)
def c6_12 : C := (.exit 0)
def c6_10 : C := (.seq (.cond (.t 40) .skip
    (.keep [5] c6_12)) c6_11)
def c6_8 : C := (.seq (.seq (.region [
      ⟨(some 40), (.pure (.bin .lss)), [.t 39, .t 38], none⟩] false) c6_10) c6_9)
def c6_7 : C := (.block 0 (.loop (some [1, 5, 37, 38, 39]) c6_8))
def c6_2 : C := (.seq (.seq (.region [
      ⟨(some 37), (.pure .mov), [.t 0], none⟩,
      ⟨(some 38), (.pure .lenS), [.t 37], none⟩,
      ⟨(some 39), (.pure .mov), [.c (.int .i64 (Int.ofNat 0))], none⟩] false) c6_7) c6_6)
def c6_5 : C := .ret
def c6_4 : C := (.keep [4] c6_5)
def c6_3 : C := (.cond (.t 31) (.seq (.region [
      ⟨(some 32), (.call 9), [], none⟩,
      ⟨(some 33), (.pure .mov), [.t 32], none⟩,
      ⟨(some 34), (.pure .mov), [.t 6], (some (33, true))⟩,
      ⟨(some 35), (.pure (.bin .eql)), [.t 34, .c (.int .i64 (Int.ofNat 0))], (some (33, true))⟩,
      ⟨(some 36), (.pure .pick), [.t 33, .t 35, .c (.bool false)], none⟩,
      ⟨(some 4), (.pure .mov), [.t 36], none⟩] false) c6_4)
    .skip)
def c6_1 : C := (.seq (.seq (.region [
      ⟨(some 21), (.call 9), [], none⟩,
      ⟨(some 22), (.pure (.un .not)), [.t 21], none⟩,
      ⟨(some 23), (.pure .mov), [.t 22], none⟩,
      ⟨(some 24), (.pure .mov), [.t 6], (some (23, false))⟩,
      ⟨(some 25), (.pure (.bin .neq)), [.t 24, .c (.int .i64 (Int.ofNat 0))], (some (23, false))⟩,
      ⟨(some 26), (.pure .pick), [.t 23, .c (.bool true), .t 25], none⟩,
      ⟨(some 27), (.pure .mov), [.t 26], none⟩,
      ⟨(some 28), (.pure .mov), [.t 0], (some (27, false))⟩,
      ⟨(some 29), (.pure .lenS), [.t 28], (some (27, false))⟩,
      ⟨(some 30), (.pure (.bin .gtr)), [.t 29, .c (.int .i64 (Int.ofNat 100))], (some (27, false))⟩,
      ⟨(some 31), (.pure .pick), [.t 27, .c (.bool true), .t 30], none⟩] false) c6_3) c6_2)
def c6_0 : C := (.seq (.region [
      ⟨(some 18), (.call 8), [.c (.int .i64 (Int.ofNat 100))], none⟩,
      ⟨(some 17), (.pure .mov), [.t 18], none⟩,
      ⟨(some 19), (.pure (.extract 0)), [.t 17], none⟩,
      ⟨(some 20), (.pure (.extract 1)), [.t 17], none⟩,
      ⟨(some 5), (.pure .mov), [.t 19], none⟩,
      ⟨(some 6), (.pure .mov), [.t 20], none⟩] false) c6_1)
def k6 : DFn := ⟨100, (.seq (.region [
      ⟨(some 4), (.pure .mov), [.c (.bool false)], none⟩] false) c6_0), [.tmp 4]⟩
theorem c6 : (match Try.prog.funcs[6]? with | some fn => compileFn Try.prog 0 [none, none, none, none, none, some [4], some [5], none, some [1, 5, 37, 38, 39], none, none, some [5], some [1, 5, 37, 38, 39], none, none, none, none, some [4], none, none, none, some [4], some [1, 5, 37, 38, 39], none, some [1, 5, 37, 38, 39, 54, 55, 56], none, none, some [1, 5, 37, 38, 39], none, none, none, none, some [4], none, none, none, some [4], some [5], none, some [5, 83, 84, 85], none, none, some [5], none, none, none, none, some [4], none, none, some [4]] fn | none => none) = some k6 := by kernel_rfl
def q6_0 (tb : Nat → Option DFn) (nv : CallF) (Q : Value → Heap → Prop) : Kont := kSeq (fun wf H => wC tb nv c6_6 wf H (kFn [.tmp 4] Q)) (kFn [.tmp 4] Q)
def q6_1 (tb : Nat → Option DFn) (nv : CallF) (Q : Value → Heap → Prop) : Kont := kBlk 0 (q6_0 tb nv Q)
def q6_2 (tb : Nat → Option DFn) (nv : CallF) (K : Kont) : Kont := kSeq (fun wf H => wC tb nv c6_9 wf H K) K
def q6_3 (tb : Nat → Option DFn) (nv : CallF) (K : Kont) : Kont := kSeq (fun wf H => wC tb nv c6_13 wf H (q6_2 tb nv K)) (q6_2 tb nv K)
def q6_4 (tb : Nat → Option DFn) (nv : CallF) (K : Kont) : Kont := kBlk 1 (q6_3 tb nv K)
def q6_5 (tb : Nat → Option DFn) (nv : CallF) (K : Kont) : Kont := kSeq (fun wf H => wC tb nv c6_23 wf H (q6_4 tb nv K)) (q6_4 tb nv K)
def q6_6 (tb : Nat → Option DFn) (nv : CallF) (K : Kont) : Kont := kBlk 2 (q6_5 tb nv K)
def q6_7 (tb : Nat → Option DFn) (nv : CallF) (Q : Value → Heap → Prop) : Kont := kSeq (fun wf H => wC tb nv c6_44 wf H (kFn [.tmp 4] Q)) (kFn [.tmp 4] Q)
def q6_8 (tb : Nat → Option DFn) (nv : CallF) (Q : Value → Heap → Prop) : Kont := kBlk 4 (q6_7 tb nv Q)
def w6_43 (tb : Nat → Option DFn) (nv : CallF) (t5 : Value) (H : Heap) (Q : Value → Heap → Prop) : Prop := wC tb nv c6_43 (mkW [(5, t5)]) H (kFn [.tmp 4] Q)
def w6_36 (tb : Nat → Option DFn) (nv : CallF) (t1 t5 t37 t38 t39 : Value) (H : Heap) (K : Kont) : Prop := wC tb nv c6_36 (mkW [(1, t1), (5, t5), (37, t37), (38, t38), (39, t39)]) H (q6_4 tb nv K)
def w6_41 (tb : Nat → Option DFn) (nv : CallF) (t1 t5 t37 t38 t39 : Value) (H : Heap) (K : Kont) : Prop := wC tb nv c6_41 (mkW [(1, t1), (5, t5), (37, t37), (38, t38), (39, t39)]) H (q6_2 tb nv K)
def w6_57 (tb : Nat → Option DFn) (nv : CallF) (t5 : Value) (H : Heap) (Q : Value → Heap → Prop) : Prop := wC tb nv c6_57 (mkW [(5, t5)]) H (kFn [.tmp 4] Q)
theorem e6 (tb : Nat → Option DFn) (nv : CallF) (a0 a1 : Value) (H : Heap) (Q : Value → Heap → Prop) : wFn tb nv k6 [a0, a1] H Q = (
    Ev tb nv 8 [(.int .i64 100)] H fun x0 H1 =>
    wP (.extract 0) [x0] fun x2 =>
    wP (.extract 1) [x0] fun x3 =>
    Ev tb nv 9 [] H1 fun x4 H5 =>
    wP (.un .not) [x4] fun x6 =>
    asB x6 fun b7 => onB b7 (Ev tb nv 9 [] H5 fun x8 H9 =>
    asB x8 fun b10 => onB b10 (wP (.bin .eql) [x3, (.int .i64 0)] fun x11 =>
    atK (Q x11 H9))
    (atK (Q (.bool false) H9)))
    (wP (.bin .neq) [x3, (.int .i64 0)] fun x12 =>
    asB x12 fun b13 => onB b13 (Ev tb nv 9 [] H5 fun x14 H15 =>
    asB x14 fun b16 => onB b16 (wP (.bin .eql) [x3, (.int .i64 0)] fun x17 =>
    atK (Q x17 H15))
    (atK (Q (.bool false) H15)))
    (wP .lenS [a0] fun x18 =>
    wP (.bin .gtr) [x18, (.int .i64 100)] fun x19 =>
    asB x19 fun b20 => onB b20 (Ev tb nv 9 [] H5 fun x21 H22 =>
    asB x21 fun b23 => onB b23 (wP (.bin .eql) [x3, (.int .i64 0)] fun x24 =>
    atK (Q x24 H22))
    (atK (Q (.bool false) H22)))
    (wP .lenS [a0] fun x25 =>
    wLoop tb nv c6_8 [1, 5, 37, 38, 39] (mkW [(1, a1), (5, x2), (37, a0), (38, x25), (39, (.int .i64 0))]) H5 (q6_1 tb nv Q))))) := by kernel_rfl
theorem l6_8 (tb : Nat → Option DFn) (nv : CallF) (t1 t5 t37 t38 t39 : Value) (H : Heap) (K : Kont) : wC tb nv c6_8 (mkW [(1, t1), (5, t5), (37, t37), (38, t38), (39, t39)]) H K = (
    wP (.bin .lss) [t39, t38] fun x26 =>
    asB x26 fun b27 => onB b27 (wP (.iaddS 28) [t37, t39] fun x28 =>
    wR (.load 28 true) [x28] H fun x29 =>
    wA (.alloc [(.int .i64 0), (.int .i64 0), (.int .i64 0), (.int .i64 0), (.int .i64 0), (.int .i64 0), (.int .i64 0), (.int .i64 0), (.int .i64 0), (.int .i64 0), (.bool false), (.int .i64 0), (.int .i64 0), (.int .i64 0), (.int .i64 0), (.int .i64 0), (.int .i64 0), (.int .i64 0), (.int .i64 0), (.int .i64 0), (.string ⟨⟨[]⟩⟩), (.int .i64 0), (.int .i64 0), (.int .i64 0), (.int .i64 0), (.slice none 0 0), (.slice none 0 0), (.int .i64 0)]) [] H fun x30 H31 =>
    wE (.store 28) [x30, x29] H31 fun x32 H33 =>
    wR (.load 28 true) [x30] H33 fun x34 =>
    Ev tb nv 20 [x34] H33 fun x35 H36 =>
    wP (.un .not) [x35] fun x37 =>
    asB x37 fun b38 => onB b38 (atK (K .ret (mkW [(4, (.bool true))]) H36))
    (wR (.load 28 true) [x30] H36 fun x39 =>
    Ev tb nv 11 [t5, x39, t1] H36 fun x40 H41 =>
    wP .lenS [x40] fun x42 =>
    wP (.bin .gtr) [x42, (.int .i64 0)] fun x43 =>
    asB x43 fun b44 => onB b44 (atK (K .ret (mkW [(4, (.bool false))]) H41))
    (Ev tb nv 17 [t5, t1] H41 fun x45 H46 =>
    wP .lenS [x45] fun x47 =>
    wLoop tb nv c6_25 [1, 5, 37, 38, 39, 54, 55, 56] (mkW [(1, t1), (5, t5), (37, t37), (38, t38), (39, t39), (54, x45), (55, x47), (56, (.int .i64 0))]) H46 (q6_6 tb nv K))))
    (atK (K (.exit 0) (mkW [(5, t5)]) H))) := by kernel_rfl
theorem x6_8_0 (tb : Nat → Option DFn) (nv : CallF) (t4 : Value) (H : Heap) (Q : Value → Heap → Prop) : (q6_1 tb nv Q) .ret (mkW [(4, t4)]) H = (
    Q t4 H) := by kernel_rfl
theorem x6_8_1 (tb : Nat → Option DFn) (nv : CallF) (t5 : Value) (H : Heap) (Q : Value → Heap → Prop) : (q6_1 tb nv Q) (.exit 0) (mkW [(5, t5)]) H = (
    atK (w6_43 tb nv t5 H Q)) := by kernel_rfl
theorem e6_43 (tb : Nat → Option DFn) (nv : CallF) (t5 : Value) (H : Heap) (Q : Value → Heap → Prop) : w6_43 tb nv t5 H Q = (
    Ev tb nv 15 [t5] H fun x48 H49 =>
    wP .lenS [x48] fun x50 =>
    wLoop tb nv c6_46 [5, 83, 84, 85] (mkW [(5, t5), (83, x48), (84, x50), (85, (.int .i64 0))]) H49 (q6_8 tb nv Q)) := by kernel_rfl
theorem l6_25 (tb : Nat → Option DFn) (nv : CallF) (t1 t5 t37 t38 t39 t54 t55 t56 : Value) (H : Heap) (K : Kont) : wC tb nv c6_25 (mkW [(1, t1), (5, t5), (37, t37), (38, t38), (39, t39), (54, t54), (55, t55), (56, t56)]) H K = (
    wP (.bin .lss) [t56, t55] fun x51 =>
    asB x51 fun b52 => onB b52 (wP (.iaddS 28) [t54, t56] fun x53 =>
    wR (.load 28 true) [x53] H fun x54 =>
    wA (.alloc [(.int .i64 0), (.int .i64 0), (.int .i64 0), (.int .i64 0), (.int .i64 0), (.int .i64 0), (.int .i64 0), (.int .i64 0), (.int .i64 0), (.int .i64 0), (.bool false), (.int .i64 0), (.int .i64 0), (.int .i64 0), (.int .i64 0), (.int .i64 0), (.int .i64 0), (.int .i64 0), (.int .i64 0), (.int .i64 0), (.string ⟨⟨[]⟩⟩), (.int .i64 0), (.int .i64 0), (.int .i64 0), (.int .i64 0), (.slice none 0 0), (.slice none 0 0), (.int .i64 0)]) [] H fun x55 H56 =>
    wE (.store 28) [x55, x54] H56 fun x57 H58 =>
    wP (.fadd 0) [x55] fun x59 =>
    wR (.load 1 false) [x59] H58 fun x60 =>
    wP (.bin .neq) [x60, (.int .i64 15)] fun x61 =>
    asB x61 fun b62 => onB b62 (wP (.fadd 0) [x55] fun x63 =>
    wR (.load 1 false) [x63] H58 fun x64 =>
    wP (.bin .neq) [x64, (.int .i64 13)] fun x65 =>
    asB x65 fun b66 => onB b66 (atK (K .ret (mkW [(4, (.bool false))]) H58))
    (wP (.fadd 2) [x55] fun x67 =>
    wP (.fadd 0) [x67] fun x68 =>
    wR (.load 1 false) [x68] H58 fun x69 =>
    wP (.bin .neq) [x69, (.int .i64 100)] fun x70 =>
    asB x70 fun b71 => onB b71 (atK (K .ret (mkW [(4, (.bool false))]) H58))
    (wP (.bin .add) [t56, (.int .i64 1)] fun x72 =>
    atK (K .normal (mkW [(1, t1), (5, t5), (37, t37), (38, t38), (39, t39), (54, t54), (55, t55), (56, x72)]) H58))))
    (wP (.fadd 2) [x55] fun x73 =>
    wP (.fadd 0) [x73] fun x74 =>
    wR (.load 1 false) [x74] H58 fun x75 =>
    wP (.bin .neq) [x75, (.int .i64 100)] fun x76 =>
    asB x76 fun b77 => onB b77 (atK (K .ret (mkW [(4, (.bool false))]) H58))
    (wP (.bin .add) [t56, (.int .i64 1)] fun x78 =>
    atK (K .normal (mkW [(1, t1), (5, t5), (37, t37), (38, t38), (39, t39), (54, t54), (55, t55), (56, x78)]) H58))))
    (atK (K (.exit 2) (mkW [(1, t1), (5, t5), (37, t37), (38, t38), (39, t39)]) H))) := by kernel_rfl
theorem x6_25_0 (tb : Nat → Option DFn) (nv : CallF) (t4 : Value) (H : Heap) (K : Kont) : (q6_6 tb nv K) .ret (mkW [(4, t4)]) H = (
    K .ret (mkW [(4, t4)]) H) := by kernel_rfl
theorem x6_25_1 (tb : Nat → Option DFn) (nv : CallF) (t1 t5 t37 t38 t39 : Value) (H : Heap) (K : Kont) : (q6_6 tb nv K) (.exit 2) (mkW [(1, t1), (5, t5), (37, t37), (38, t38), (39, t39)]) H = (
    atK (w6_36 tb nv t1 t5 t37 t38 t39 H K)) := by kernel_rfl
theorem e6_36 (tb : Nat → Option DFn) (nv : CallF) (t1 t5 t37 t38 t39 : Value) (H : Heap) (K : Kont) : w6_36 tb nv t1 t5 t37 t38 t39 H K = (
    Ev tb nv 13 [t5] H fun x79 H80 =>
    wP (.extract 0) [x79] fun x81 =>
    wP (.extract 1) [x79] fun x82 =>
    wA (.alloc [(.int .i64 0), (.int .i64 0), (.int .i64 0), (.int .i64 0), (.int .i64 0), (.int .i64 0), (.int .i64 0), (.int .i64 0), (.string ⟨⟨[]⟩⟩), (.int .i64 0), (.int .i64 0), (.int .i64 0), (.int .i64 0)]) [] H80 fun x83 H84 =>
    wE (.store 13) [x83, x81] H84 fun x85 H86 =>
    asB x82 fun b87 => onB b87 (atK (K .ret (mkW [(4, (.bool false))]) H86))
    (atK (w6_41 tb nv t1 t5 t37 t38 t39 H86 K))) := by kernel_rfl
theorem e6_41 (tb : Nat → Option DFn) (nv : CallF) (t1 t5 t37 t38 t39 : Value) (H : Heap) (K : Kont) : w6_41 tb nv t1 t5 t37 t38 t39 H K = (
    wP (.bin .add) [t39, (.int .i64 1)] fun x88 =>
    atK (K .normal (mkW [(1, t1), (5, t5), (37, t37), (38, t38), (39, x88)]) H)) := by kernel_rfl
theorem l6_46 (tb : Nat → Option DFn) (nv : CallF) (t5 t83 t84 t85 : Value) (H : Heap) (K : Kont) : wC tb nv c6_46 (mkW [(5, t5), (83, t83), (84, t84), (85, t85)]) H K = (
    wP (.bin .lss) [t85, t84] fun x89 =>
    asB x89 fun b90 => onB b90 (wP (.iaddS 6) [t83, t85] fun x91 =>
    wR (.load 6 true) [x91] H fun x92 =>
    wA (.alloc [(.int .i64 0), (.int .i64 0), (.int .i64 0), (.int .i64 0), (.int .i64 0), (.int .i64 0)]) [] H fun x93 H94 =>
    wE (.store 6) [x93, x92] H94 fun x95 H96 =>
    wP (.fadd 1) [x93] fun x97 =>
    wR (.load 1 false) [x97] H96 fun x98 =>
    wP (.bin .neq) [x98, (.int .i64 100)] fun x99 =>
    asB x99 fun b100 => onB b100 (atK (K .ret (mkW [(4, (.bool false))]) H96))
    (wP (.bin .add) [t85, (.int .i64 1)] fun x101 =>
    atK (K .normal (mkW [(5, t5), (83, t83), (84, t84), (85, x101)]) H96)))
    (atK (K (.exit 4) (mkW [(5, t5)]) H))) := by kernel_rfl
theorem x6_46_0 (tb : Nat → Option DFn) (nv : CallF) (t4 : Value) (H : Heap) (Q : Value → Heap → Prop) : (q6_8 tb nv Q) .ret (mkW [(4, t4)]) H = (
    Q t4 H) := by kernel_rfl
theorem x6_46_1 (tb : Nat → Option DFn) (nv : CallF) (t5 : Value) (H : Heap) (Q : Value → Heap → Prop) : (q6_8 tb nv Q) (.exit 4) (mkW [(5, t5)]) H = (
    atK (w6_57 tb nv t5 H Q)) := by kernel_rfl
theorem e6_57 (tb : Nat → Option DFn) (nv : CallF) (t5 : Value) (H : Heap) (Q : Value → Heap → Prop) : w6_57 tb nv t5 H Q = (
    Ev tb nv 12 [t5] H fun x102 H103 =>
    wP (.extract 0) [x102] fun x104 =>
    wP (.extract 1) [x102] fun x105 =>
    wP (.un .not) [x105] fun x106 =>
    atK (Q x106 H103)) := by kernel_rfl

/-- tompion/tompionlaw17.ClientNil -/
def c7_5 : C := .ret
def c7_4 : C := (.seq (.region [
      ⟨(some 31), (.call 9), [], none⟩,
      ⟨(some 32), (.pure .mov), [.t 31], none⟩,
      ⟨(some 33), (.pure .mov), [.t 8], (some (32, true))⟩,
      ⟨(some 34), (.pure .lenS), [.t 33], (some (32, true))⟩,
      ⟨(some 35), (.pure (.bin .eql)), [.t 34, .c (.int .i64 (Int.ofNat 0))], (some (32, true))⟩,
      ⟨(some 36), (.pure .pick), [.t 32, .t 35, .c (.bool false)], none⟩,
      ⟨(some 37), (.pure .mov), [.t 36], none⟩,
      ⟨(some 38), (.pure .mov), [.t 9], (some (37, true))⟩,
      ⟨(some 39), (.pure (.bin .eql)), [.t 38, .c (.int .i64 (Int.ofNat 12))], (some (37, true))⟩,
      ⟨(some 40), (.pure .pick), [.t 37, .t 39, .c (.bool false)], none⟩,
      ⟨(some 41), (.pure .mov), [.t 40], none⟩,
      ⟨(some 42), (.pure .mov), [.t 7], (some (41, true))⟩,
      ⟨(some 43), (.read (.load 28 true) []), [.t 4], (some (41, true))⟩,
      ⟨(some 44), (.pure .mov), [.t 2], (some (41, true))⟩,
      ⟨(some 45), (.call 11), [.t 42, .t 43, .t 44], (some (41, true))⟩,
      ⟨(some 46), (.pure .lenS), [.t 45], (some (41, true))⟩,
      ⟨(some 47), (.pure (.bin .eql)), [.t 46, .c (.int .i64 (Int.ofNat 0))], (some (41, true))⟩,
      ⟨(some 48), (.pure .pick), [.t 41, .t 47, .c (.bool false)], none⟩,
      ⟨(some 49), (.pure .mov), [.t 48], none⟩,
      ⟨(some 50), (.pure .mov), [.t 7], (some (49, true))⟩,
      ⟨(some 51), (.pure .mov), [.t 2], (some (49, true))⟩,
      ⟨(some 52), (.call 17), [.t 50, .t 51], (some (49, true))⟩,
      ⟨(some 53), (.pure .lenS), [.t 52], (some (49, true))⟩,
      ⟨(some 54), (.pure (.bin .eql)), [.t 53, .c (.int .i64 (Int.ofNat 0))], (some (49, true))⟩,
      ⟨(some 55), (.pure .pick), [.t 49, .t 54, .c (.bool false)], none⟩,
      ⟨(some 56), (.pure .mov), [.t 55], none⟩,
      ⟨(some 57), (.pure .mov), [.t 11], (some (56, true))⟩,
      ⟨(some 58), (.pure (.un .not)), [.t 57], (some (56, true))⟩,
      ⟨(some 59), (.pure .pick), [.t 56, .t 58, .c (.bool false)], none⟩,
      ⟨(some 60), (.pure .mov), [.t 59], none⟩,
      ⟨(some 61), (.pure .mov), [.t 13], (some (60, true))⟩,
      ⟨(some 62), (.pure (.un .not)), [.t 61], (some (60, true))⟩,
      ⟨(some 63), (.pure .pick), [.t 60, .t 62, .c (.bool false)], none⟩,
      ⟨(some 64), (.pure .mov), [.t 63], none⟩,
      ⟨(some 65), (.pure .mov), [.t 7], (some (64, true))⟩,
      ⟨(some 66), (.call 15), [.t 65], (some (64, true))⟩,
      ⟨(some 67), (.pure .lenS), [.t 66], (some (64, true))⟩,
      ⟨(some 68), (.pure (.bin .eql)), [.t 67, .c (.int .i64 (Int.ofNat 0))], (some (64, true))⟩,
      ⟨(some 69), (.pure .pick), [.t 64, .t 68, .c (.bool false)], none⟩,
      ⟨(some 70), (.pure .mov), [.t 69], none⟩,
      ⟨(some 71), (.pure .mov), [.t 7], (some (70, true))⟩,
      ⟨(some 72), (.call 14), [.t 71], (some (70, true))⟩,
      ⟨(some 73), (.pure (.bin .eql)), [.t 72, .c (.int .i64 (Int.ofNat 0))], (some (70, true))⟩,
      ⟨(some 74), (.pure .pick), [.t 70, .t 73, .c (.bool false)], none⟩,
      ⟨(some 75), (.pure .mov), [.t 74], none⟩,
      ⟨(some 76), (.pure .mov), [.t 7], (some (75, true))⟩,
      ⟨(some 77), (.call 19), [.t 76], (some (75, true))⟩,
      ⟨(some 78), (.pure (.field 0 1 false)), [.t 77], (some (75, true))⟩,
      ⟨(some 79), (.pure (.bin .eql)), [.t 78, .c (.int .i64 (Int.ofNat 0))], (some (75, true))⟩,
      ⟨(some 80), (.pure .pick), [.t 75, .t 79, .c (.bool false)], none⟩,
      ⟨(some 6), (.pure .mov), [.t 80], none⟩] false) c7_5)
def c7_3 : C := (.seq (.region [
      ⟨(some 27), (.pure .mov), [.t 7], none⟩,
      ⟨(some 28), (.call 13), [.t 27], none⟩,
      ⟨(some 26), (.pure .mov), [.t 28], none⟩,
      ⟨(some 29), (.pure (.extract 0)), [.t 26], none⟩,
      ⟨(some 30), (.pure (.extract 1)), [.t 26], none⟩,
      ⟨(some 12), (.alloc (.alloc [(.int .i64 (Int.ofNat 0)), (.int .i64 (Int.ofNat 0)), (.int .i64 (Int.ofNat 0)), (.int .i64 (Int.ofNat 0)), (.int .i64 (Int.ofNat 0)), (.int .i64 (Int.ofNat 0)), (.int .i64 (Int.ofNat 0)), (.int .i64 (Int.ofNat 0)), (.string ⟨⟨[]⟩⟩), (.int .i64 (Int.ofNat 0)), (.int .i64 (Int.ofNat 0)), (.int .i64 (Int.ofNat 0)), (.int .i64 (Int.ofNat 0))])), [], none⟩,
      ⟨none, (.eff (.store 13)), [.t 12, .t 29], none⟩,
      ⟨(some 13), (.pure .mov), [.t 30], none⟩] false) c7_4)
def c7_2 : C := (.seq (.region [
      ⟨(some 22), (.pure .mov), [.t 7], none⟩,
      ⟨(some 23), (.call 12), [.t 22], none⟩,
      ⟨(some 21), (.pure .mov), [.t 23], none⟩,
      ⟨(some 24), (.pure (.extract 0)), [.t 21], none⟩,
      ⟨(some 25), (.pure (.extract 1)), [.t 21], none⟩,
      ⟨(some 10), (.pure .mov), [.t 24], none⟩,
      ⟨(some 11), (.pure .mov), [.t 25], none⟩] false) c7_3)
def c7_1 : C := (.seq (.region [
      ⟨(some 15), (.pure .mov), [.t 7], none⟩,
      ⟨(some 16), (.read (.load 5 true) []), [.t 3], none⟩,
      ⟨(some 17), (.pure .mov), [.t 2], none⟩,
      ⟨(some 18), (.call 10), [.t 15, .t 16, .t 17], none⟩,
      ⟨(some 14), (.pure .mov), [.t 18], none⟩,
      ⟨(some 19), (.pure (.extract 0)), [.t 14], none⟩,
      ⟨(some 20), (.pure (.extract 1)), [.t 14], none⟩,
      ⟨(some 8), (.pure .mov), [.t 19], none⟩,
      ⟨(some 9), (.pure .mov), [.t 20], none⟩] false) c7_2)
def c7_0 : C := (.seq (.region [
      ⟨(some 7), (.pure .mov), [.c (.pointer none)], none⟩] false) c7_1)
def k7 : DFn := ⟨81, (.seq (.region [
      ⟨(some 3), (.alloc .box), [.t 0], none⟩,
      ⟨(some 4), (.alloc .box), [.t 1], none⟩,
      ⟨(some 6), (.pure .mov), [.c (.bool false)], none⟩] false) c7_0), [.tmp 6]⟩
theorem c7 : (match Try.prog.funcs[7]? with | some fn => compileFn Try.prog 0 [] fn | none => none) = some k7 := by kernel_rfl


/-- tompion/client.New -/
def c8_6 : C := .ret
def c8_5 : C := (.keep [2, 3] c8_6)
def c8_1 : C := (.seq (.region [
      ⟨(some 10), (.pure .mov), [.t 0], none⟩,
      ⟨(some 11), (.alloc .mkmap), [], none⟩,
      ⟨(some 12), (.pure (.build [(.int .i64 (Int.ofNat 0)), (.int .i64 (Int.ofNat 0)), (.pointer none), (.int .i64 (Int.ofNat 0)), (.slice none 0 0), (.slice none 0 0), (.slice none 0 0), (.map none), (.int .i64 (Int.ofNat 0))] [(0, 1), (7, 1)])), [.t 10, .t 11], none⟩,
      ⟨(some 13), (.alloc .box), [.t 12], none⟩,
      ⟨(some 2), (.pure .mov), [.t 13], none⟩,
      ⟨(some 3), (.pure .mov), [.c (.int .i64 (Int.ofNat 0))], none⟩] false) c8_5)
def c8_4 : C := .ret
def c8_3 : C := (.keep [2, 3] c8_4)
def c8_2 : C := (.cond (.t 9) (.seq (.region [
      ⟨(some 2), (.pure .mov), [.c (.pointer none)], none⟩,
      ⟨(some 3), (.pure .mov), [.c (.int .i64 (Int.ofNat 1))], none⟩] false) c8_3)
    .skip)
def c8_0 : C := (.seq (.seq (.region [
      ⟨(some 4), (.pure .mov), [.t 0], none⟩,
      ⟨(some 5), (.pure (.bin .lss)), [.t 4, .c (.int .i64 (Int.ofNat 100))], none⟩,
      ⟨(some 6), (.pure .mov), [.t 5], none⟩,
      ⟨(some 7), (.pure .mov), [.t 0], (some (6, false))⟩,
      ⟨(some 8), (.pure (.bin .geq)), [.t 7, .c (.int .i64 (Int.ofNat 104))], (some (6, false))⟩,
      ⟨(some 9), (.pure .pick), [.t 6, .c (.bool true), .t 8], none⟩] false) c8_2) c8_1)
def k8 : DFn := ⟨14, (.seq (.region [
      ⟨(some 2), (.pure .mov), [.c (.pointer none)], none⟩,
      ⟨(some 3), (.pure .mov), [.c (.int .i64 (Int.ofNat 0))], none⟩] false) c8_0), [.tmp 2, .tmp 3]⟩
theorem c8 : (match Try.prog.funcs[8]? with | some fn => compileFn Try.prog 0 [none, none, none, none, some [2, 3], none, some [2, 3]] fn | none => none) = some k8 := by kernel_rfl
theorem e8 (tb : Nat → Option DFn) (nv : CallF) (a0 : Value) (H : Heap) (Q : Value → Heap → Prop) : wFn tb nv k8 [a0] H Q = (
    wP (.bin .lss) [a0, (.int .i64 100)] fun x0 =>
    asB x0 fun b1 => onB b1 (atK (Q (.tuple ⟨[(.pointer none), (.int .i64 1)]⟩) H))
    (wP (.bin .geq) [a0, (.int .i64 104)] fun x2 =>
    asB x2 fun b3 => onB b3 (atK (Q (.tuple ⟨[(.pointer none), (.int .i64 1)]⟩) H))
    (wA .mkmap [] H fun x4 H5 =>
    wP (.build [(.int .i64 0), (.int .i64 0), (.pointer none), (.int .i64 0), (.slice none 0 0), (.slice none 0 0), (.slice none 0 0), (.map none), (.int .i64 0)] [(0, 1), (7, 1)]) [a0, x4] fun x6 =>
    wA .box [x6] H5 fun x7 H8 =>
    atK (Q (.tuple ⟨[x7, (.int .i64 0)]⟩) H8)))) := by kernel_rfl

/-- tompion/tompionlaw17.awake -/
def c9_12 : C := .ret
def c9_11 : C := (.seq (.region [
      ⟨(some 58), (.pure .mov), [.t 3], none⟩,
      ⟨(some 59), (.pure .lenS), [.t 58], none⟩,
      ⟨(some 60), (.pure (.bin .eql)), [.t 59, .c (.int .i64 (Int.ofNat 1))], none⟩,
      ⟨(some 61), (.pure .mov), [.t 60], none⟩,
      ⟨(some 62), (.pure .mov), [.t 3], (some (61, true))⟩,
      ⟨(some 63), (.pure (.iaddS 28)), [.t 62, .c (.int .i64 (Int.ofNat 0))], (some (61, true))⟩,
      ⟨(some 64), (.pure (.fadd 0)), [.t 63], (some (61, true))⟩,
      ⟨(some 65), (.read (.load 1 false) []), [.t 64], (some (61, true))⟩,
      ⟨(some 66), (.pure (.bin .eql)), [.t 65, .c (.int .i64 (Int.ofNat 15))], (some (61, true))⟩,
      ⟨(some 67), (.pure .pick), [.t 61, .t 66, .c (.bool false)], none⟩,
      ⟨(some 68), (.pure .mov), [.t 67], none⟩,
      ⟨(some 69), (.pure .mov), [.t 4], (some (68, true))⟩,
      ⟨(some 70), (.pure (.bin .eql)), [.t 69, .c (.int .i64 (Int.ofNat 0))], (some (68, true))⟩,
      ⟨(some 71), (.pure .pick), [.t 68, .t 70, .c (.bool false)], none⟩,
      ⟨(some 72), (.pure .mov), [.t 71], none⟩,
      ⟨(some 73), (.pure .mov), [.t 6], (some (72, true))⟩,
      ⟨(some 74), (.pure (.bin .eql)), [.t 73, .c (.int .i64 (Int.ofNat 13))], (some (72, true))⟩,
      ⟨(some 75), (.pure .pick), [.t 72, .t 74, .c (.bool false)], none⟩,
      ⟨(some 76), (.pure .mov), [.t 75], none⟩,
      ⟨(some 77), (.pure .mov), [.t 7], (some (76, true))⟩,
      ⟨(some 78), (.pure .lenS), [.t 77], (some (76, true))⟩,
      ⟨(some 79), (.pure (.bin .eql)), [.t 78, .c (.int .i64 (Int.ofNat 1))], (some (76, true))⟩,
      ⟨(some 80), (.pure .pick), [.t 76, .t 79, .c (.bool false)], none⟩,
      ⟨(some 81), (.pure .mov), [.t 80], none⟩,
      ⟨(some 82), (.pure .mov), [.t 7], (some (81, true))⟩,
      ⟨(some 83), (.pure (.iaddS 28)), [.t 82, .c (.int .i64 (Int.ofNat 0))], (some (81, true))⟩,
      ⟨(some 84), (.pure (.fadd 0)), [.t 83], (some (81, true))⟩,
      ⟨(some 85), (.read (.load 1 false) []), [.t 84], (some (81, true))⟩,
      ⟨(some 86), (.pure (.bin .eql)), [.t 85, .c (.int .i64 (Int.ofNat 9))], (some (81, true))⟩,
      ⟨(some 87), (.pure .pick), [.t 81, .t 86, .c (.bool false)], none⟩,
      ⟨(some 88), (.pure .mov), [.t 87], none⟩,
      ⟨(some 89), (.pure .mov), [.t 7], (some (88, true))⟩,
      ⟨(some 90), (.pure (.iaddS 28)), [.t 89, .c (.int .i64 (Int.ofNat 0))], (some (88, true))⟩,
      ⟨(some 91), (.pure (.fadd 1)), [.t 90], (some (88, true))⟩,
      ⟨(some 92), (.read (.load 1 false) []), [.t 91], (some (88, true))⟩,
      ⟨(some 93), (.pure (.bin .eql)), [.t 92, .c (.int .i64 (Int.ofNat 1))], (some (88, true))⟩,
      ⟨(some 94), (.pure .pick), [.t 88, .t 93, .c (.bool false)], none⟩,
      ⟨(some 95), (.pure .mov), [.t 94], none⟩,
      ⟨(some 96), (.pure .mov), [.t 7], (some (95, true))⟩,
      ⟨(some 97), (.pure (.iaddS 28)), [.t 96, .c (.int .i64 (Int.ofNat 0))], (some (95, true))⟩,
      ⟨(some 98), (.pure (.fadd 8)), [.t 97], (some (95, true))⟩,
      ⟨(some 99), (.read (.load 1 false) []), [.t 98], (some (95, true))⟩,
      ⟨(some 100), (.pure (.bin .eql)), [.t 99, .c (.int .i64 (Int.ofNat 7))], (some (95, true))⟩,
      ⟨(some 101), (.pure .pick), [.t 95, .t 100, .c (.bool false)], none⟩,
      ⟨(some 102), (.pure .mov), [.t 101], none⟩,
      ⟨(some 103), (.pure .mov), [.t 9], (some (102, true))⟩,
      ⟨(some 104), (.pure .pick), [.t 102, .t 103, .c (.bool false)], none⟩,
      ⟨(some 105), (.pure .mov), [.t 104], none⟩,
      ⟨(some 106), (.read (.load 13 true) []), [.t 8], (some (105, true))⟩,
      ⟨(some 107), (.pure (.build [(.int .i64 (Int.ofNat 0)), (.int .i64 (Int.ofNat 0)), (.int .i64 (Int.ofNat 0)), (.int .i64 (Int.ofNat 0)), (.string ⟨⟨[]⟩⟩)] [(0, 1), (1, 1), (3, 1)])), [.c (.int .i64 (Int.ofNat 3)), .c (.int .i64 (Int.ofNat 7)), .c (.int .i64 (Int.ofNat 1))], (some (105, true))⟩,
      ⟨(some 108), (.pure (.build [(.int .i64 (Int.ofNat 0)), (.int .i64 (Int.ofNat 0)), (.int .i64 (Int.ofNat 0))] [(1, 1)])), [.c (.int .i64 (Int.ofNat 3))], (some (105, true))⟩,
      ⟨(some 109), (.pure (.build [(.int .i64 (Int.ofNat 0)), (.int .i64 (Int.ofNat 0)), (.int .i64 (Int.ofNat 0)), (.int .i64 (Int.ofNat 0)), (.int .i64 (Int.ofNat 0)), (.int .i64 (Int.ofNat 0)), (.int .i64 (Int.ofNat 0)), (.int .i64 (Int.ofNat 0)), (.string ⟨⟨[]⟩⟩), (.int .i64 (Int.ofNat 0)), (.int .i64 (Int.ofNat 0)), (.int .i64 (Int.ofNat 0)), (.int .i64 (Int.ofNat 0))] [(0, 1), (1, 1), (4, 5), (9, 3), (12, 1)])), [.c (.int .i64 (Int.ofNat 100)), .c (.int .i64 (Int.ofNat 1)), .t 107, .t 108, .c (.int .i64 (Int.ofNat 9))], (some (105, true))⟩,
      ⟨(some 110), (.pure (.aggEq false [.i, .i, .i, .i, .i, .i, .i, .i, .s, .i, .i, .i, .i])), [.t 106, .t 109], (some (105, true))⟩,
      ⟨(some 111), (.pure .pick), [.t 105, .t 110, .c (.bool false)], none⟩,
      ⟨(some 112), (.pure .mov), [.t 111], none⟩,
      ⟨(some 113), (.pure .mov), [.t 11], (some (112, true))⟩,
      ⟨(some 114), (.pure (.un .not)), [.t 113], (some (112, true))⟩,
      ⟨(some 115), (.pure .pick), [.t 112, .t 114, .c (.bool false)], none⟩,
      ⟨(some 116), (.pure .mov), [.t 115], none⟩,
      ⟨(some 117), (.pure .mov), [.t 13], (some (116, true))⟩,
      ⟨(some 118), (.pure (.bin .eql)), [.t 117, .c (.int .i64 (Int.ofNat 1))], (some (116, true))⟩,
      ⟨(some 119), (.pure .pick), [.t 116, .t 118, .c (.bool false)], none⟩,
      ⟨(some 0), (.pure .mov), [.t 119], none⟩] false) c9_12)
def c9_10 : C := (.seq (.region [
      ⟨(some 55), (.call 8), [.c (.int .i64 (Int.ofNat 104))], none⟩,
      ⟨(some 54), (.pure .mov), [.t 55], none⟩,
      ⟨(some 56), (.pure (.extract 0)), [.t 54], none⟩,
      ⟨(some 57), (.pure (.extract 1)), [.t 54], none⟩,
      ⟨(some 12), (.pure .mov), [.t 56], none⟩,
      ⟨(some 13), (.pure .mov), [.t 57], none⟩] false) c9_11)
def c9_9 : C := (.seq (.region [
      ⟨(some 50), (.pure .mov), [.t 1], none⟩,
      ⟨(some 51), (.call 13), [.t 50], none⟩,
      ⟨(some 49), (.pure .mov), [.t 51], none⟩,
      ⟨(some 52), (.pure (.extract 0)), [.t 49], none⟩,
      ⟨(some 53), (.pure (.extract 1)), [.t 49], none⟩,
      ⟨(some 10), (.alloc (.alloc [(.int .i64 (Int.ofNat 0)), (.int .i64 (Int.ofNat 0)), (.int .i64 (Int.ofNat 0)), (.int .i64 (Int.ofNat 0)), (.int .i64 (Int.ofNat 0)), (.int .i64 (Int.ofNat 0)), (.int .i64 (Int.ofNat 0)), (.int .i64 (Int.ofNat 0)), (.string ⟨⟨[]⟩⟩), (.int .i64 (Int.ofNat 0)), (.int .i64 (Int.ofNat 0)), (.int .i64 (Int.ofNat 0)), (.int .i64 (Int.ofNat 0))])), [], none⟩,
      ⟨none, (.eff (.store 13)), [.t 10, .t 52], none⟩,
      ⟨(some 11), (.pure .mov), [.t 53], none⟩] false) c9_10)
def c9_8 : C := (.seq (.region [
      ⟨(some 45), (.pure .mov), [.t 1], none⟩,
      ⟨(some 46), (.call 13), [.t 45], none⟩,
      ⟨(some 44), (.pure .mov), [.t 46], none⟩,
      ⟨(some 47), (.pure (.extract 0)), [.t 44], none⟩,
      ⟨(some 48), (.pure (.extract 1)), [.t 44], none⟩,
      ⟨(some 8), (.alloc (.alloc [(.int .i64 (Int.ofNat 0)), (.int .i64 (Int.ofNat 0)), (.int .i64 (Int.ofNat 0)), (.int .i64 (Int.ofNat 0)), (.int .i64 (Int.ofNat 0)), (.int .i64 (Int.ofNat 0)), (.int .i64 (Int.ofNat 0)), (.int .i64 (Int.ofNat 0)), (.string ⟨⟨[]⟩⟩), (.int .i64 (Int.ofNat 0)), (.int .i64 (Int.ofNat 0)), (.int .i64 (Int.ofNat 0)), (.int .i64 (Int.ofNat 0))])), [], none⟩,
      ⟨none, (.eff (.store 13)), [.t 8, .t 47], none⟩,
      ⟨(some 9), (.pure .mov), [.t 48], none⟩] false) c9_9)
def c9_7 : C := (.seq (.region [
      ⟨(some 40), (.pure .mov), [.t 1], none⟩,
      ⟨(some 41), (.pure (.build [(.int .i64 (Int.ofNat 0)), (.int .i64 (Int.ofNat 0)), (.int .i64 (Int.ofNat 0))] [(1, 1)])), [.c (.int .i64 (Int.ofNat 3))], none⟩,
      ⟨(some 42), (.pure (.build [(.int .i64 (Int.ofNat 0)), (.int .i64 (Int.ofNat 0)), (.int .i64 (Int.ofNat 0)), (.int .i64 (Int.ofNat 0)), (.int .i64 (Int.ofNat 0)), (.int .i64 (Int.ofNat 0)), (.int .i64 (Int.ofNat 0)), (.int .i64 (Int.ofNat 0)), (.int .i64 (Int.ofNat 0)), (.int .i64 (Int.ofNat 0)), (.bool false), (.int .i64 (Int.ofNat 0)), (.int .i64 (Int.ofNat 0)), (.int .i64 (Int.ofNat 0)), (.int .i64 (Int.ofNat 0)), (.int .i64 (Int.ofNat 0)), (.int .i64 (Int.ofNat 0)), (.int .i64 (Int.ofNat 0)), (.int .i64 (Int.ofNat 0)), (.int .i64 (Int.ofNat 0)), (.string ⟨⟨[]⟩⟩), (.int .i64 (Int.ofNat 0)), (.int .i64 (Int.ofNat 0)), (.int .i64 (Int.ofNat 0)), (.int .i64 (Int.ofNat 0)), (.slice none 0 0), (.slice none 0 0), (.int .i64 (Int.ofNat 0))] [(0, 1), (1, 1), (6, 1), (21, 3), (5, 1)])), [.c (.int .i64 (Int.ofNat 10)), .c (.int .i64 (Int.ofNat 100)), .c (.int .i64 (Int.ofNat 1)), .t 41, .c (.int .i64 (Int.ofNat 9))], none⟩,
      ⟨(some 43), (.call 11), [.t 40, .t 42, .c (.int .i64 (Int.ofNat 2))], none⟩] false) c9_8)
def c9_6 : C := (.seq (.region [
      ⟨(some 36), (.pure .mov), [.t 1], none⟩,
      ⟨(some 37), (.call 21), [.c (.int .i64 (Int.ofNat 2))], none⟩,
      ⟨(some 38), (.pure (.build [(.int .i64 (Int.ofNat 0)), (.int .i64 (Int.ofNat 0)), (.int .i64 (Int.ofNat 0)), (.int .i64 (Int.ofNat 0)), (.int .i64 (Int.ofNat 0)), (.int .i64 (Int.ofNat 0)), (.int .i64 (Int.ofNat 0)), (.int .i64 (Int.ofNat 0)), (.int .i64 (Int.ofNat 0)), (.int .i64 (Int.ofNat 0)), (.bool false), (.int .i64 (Int.ofNat 0)), (.int .i64 (Int.ofNat 0)), (.int .i64 (Int.ofNat 0)), (.int .i64 (Int.ofNat 0)), (.int .i64 (Int.ofNat 0)), (.int .i64 (Int.ofNat 0)), (.int .i64 (Int.ofNat 0)), (.int .i64 (Int.ofNat 0)), (.int .i64 (Int.ofNat 0)), (.string ⟨⟨[]⟩⟩), (.int .i64 (Int.ofNat 0)), (.int .i64 (Int.ofNat 0)), (.int .i64 (Int.ofNat 0)), (.int .i64 (Int.ofNat 0)), (.slice none 0 0), (.slice none 0 0), (.int .i64 (Int.ofNat 0))] [(0, 1), (1, 1), (24, 2)])), [.c (.int .i64 (Int.ofNat 2)), .c (.int .i64 (Int.ofNat 100)), .t 37], none⟩,
      ⟨(some 39), (.call 11), [.t 36, .t 38, .c (.int .i64 (Int.ofNat 1))], none⟩,
      ⟨(some 7), (.pure .mov), [.t 39], none⟩] false) c9_7)
def c9_5 : C := (.seq (.region [
      ⟨(some 31), (.pure .mov), [.t 1], none⟩,
      ⟨(some 32), (.pure (.build [(.int .i64 (Int.ofNat 0)), (.int .i64 (Int.ofNat 0)), (.int .i64 (Int.ofNat 0)), (.int .i64 (Int.ofNat 0)), (.string ⟨⟨[]⟩⟩)] [(0, 1)])), [.c (.int .i64 (Int.ofNat 3))], none⟩,
      ⟨(some 33), (.call 10), [.t 31, .t 32, .c (.int .i64 (Int.ofNat 0))], none⟩,
      ⟨(some 30), (.pure .mov), [.t 33], none⟩,
      ⟨(some 34), (.pure (.extract 0)), [.t 30], none⟩,
      ⟨(some 35), (.pure (.extract 1)), [.t 30], none⟩,
      ⟨(some 5), (.pure .mov), [.t 34], none⟩,
      ⟨(some 6), (.pure .mov), [.t 35], none⟩] false) c9_6)
def c9_2 : C := (.seq (.region [
      ⟨(some 25), (.pure .mov), [.t 1], none⟩,
      ⟨(some 26), (.pure (.build [(.int .i64 (Int.ofNat 0)), (.int .i64 (Int.ofNat 0)), (.int .i64 (Int.ofNat 0)), (.int .i64 (Int.ofNat 0)), (.string ⟨⟨[]⟩⟩)] [(0, 1), (1, 1), (3, 1)])), [.c (.int .i64 (Int.ofNat 3)), .c (.int .i64 (Int.ofNat 7)), .c (.int .i64 (Int.ofNat 1))], none⟩,
      ⟨(some 27), (.call 10), [.t 25, .t 26, .c (.int .i64 (Int.ofNat 0))], none⟩,
      ⟨(some 24), (.pure .mov), [.t 27], none⟩,
      ⟨(some 28), (.pure (.extract 0)), [.t 24], none⟩,
      ⟨(some 29), (.pure (.extract 1)), [.t 24], none⟩,
      ⟨(some 3), (.pure .mov), [.t 28], none⟩,
      ⟨(some 4), (.pure .mov), [.t 29], none⟩] false) c9_5)
def c9_4 : C := .ret
def c9_3 : C := (.cond (.t 23) (.seq (.region [
      ⟨(some 0), (.pure .mov), [.c (.bool false)], none⟩] false) c9_4)
    .skip)
def c9_1 : C := (.seq (.seq (.region [
      ⟨(some 18), (.pure .mov), [.t 1], none⟩,
      ⟨(some 19), (.pure (.nilEq false .ptr)), [.t 18], none⟩,
      ⟨(some 20), (.pure .mov), [.t 19], none⟩,
      ⟨(some 21), (.pure .mov), [.t 2], (some (20, false))⟩,
      ⟨(some 22), (.pure (.bin .neq)), [.t 21, .c (.int .i64 (Int.ofNat 0))], (some (20, false))⟩,
      ⟨(some 23), (.pure .pick), [.t 20, .c (.bool true), .t 22], none⟩] false) c9_3) c9_2)
def c9_0 : C := (.seq (.region [
      ⟨(some 15), (.call 8), [.c (.int .i64 (Int.ofNat 100))], none⟩,
      ⟨(some 14), (.pure .mov), [.t 15], none⟩,
      ⟨(some 16), (.pure (.extract 0)), [.t 14], none⟩,
      ⟨(some 17), (.pure (.extract 1)), [.t 14], none⟩,
      ⟨(some 1), (.pure .mov), [.t 16], none⟩,
      ⟨(some 2), (.pure .mov), [.t 17], none⟩] false) c9_1)
def k9 : DFn := ⟨120, (.seq (.region [
      ⟨(some 0), (.pure .mov), [.c (.bool false)], none⟩] false) c9_0), [.tmp 0]⟩
theorem c9 : (match Try.prog.funcs[9]? with | some fn => compileFn Try.prog 0 [] fn | none => none) = some k9 := by kernel_rfl


end Go.Proofs.Ytfflfehfjgkcdaa.D
