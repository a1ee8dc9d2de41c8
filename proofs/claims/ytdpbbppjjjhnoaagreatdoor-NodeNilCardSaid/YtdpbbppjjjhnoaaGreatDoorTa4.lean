/- The compiled functions of the seat, as the machine "D" runs them, and what each comes to (written by a program). No statement of the seat is proved in this text. -/
import Derived.Test.YtdpbbppjjjhnoaaGreatDoorDz
import Derived.Test.YtdpbbppjjjhnoaaGreatDoorProg
set_option maxRecDepth 100000
set_option linter.unusedVariables false
namespace Go.Proofs.YtdpbbppjjjhnoaaGreatDoor.D
open Go
/-- (*tompion/node.Node).reply -/
def c69_4 : C := .ret
def c69_3 : C := (.keep [4] c69_4)
def c69_2 : C := (.seq (.region [
      ⟨(some 27), (.pure (.fadd 1)), [.t 5], none⟩,
      ⟨(some 28), (.read (.load 1 false) []), [.t 27], none⟩,
      ⟨(some 29), (.pure (.fadd 2)), [.t 5], none⟩,
      ⟨(some 30), (.read (.load 1 false) []), [.t 29], none⟩,
      ⟨(some 31), (.read (.load 3 true) []), [.t 7], none⟩,
      ⟨(some 32), (.pure .mov), [.t 1], none⟩,
      ⟨(some 33), (.pure (.build [(.int .i64 (Int.ofNat 0)), (.int .i64 (Int.ofNat 0)), (.int .i64 (Int.ofNat 0)), (.int .i64 (Int.ofNat 0)), (.int .i64 (Int.ofNat 0)), (.int .i64 (Int.ofNat 0)), (.int .i64 (Int.ofNat 0)), (.int .i64 (Int.ofNat 0)), (.int .i64 (Int.ofNat 0)), (.int .i64 (Int.ofNat 0)), (.bool false), (.int .i64 (Int.ofNat 0)), (.int .i64 (Int.ofNat 0)), (.int .i64 (Int.ofNat 0)), (.int .i64 (Int.ofNat 0)), (.int .i64 (Int.ofNat 0)), (.int .i64 (Int.ofNat 0)), (.int .i64 (Int.ofNat 0)), (.int .i64 (Int.ofNat 0)), (.int .i64 (Int.ofNat 0)), (.string ⟨⟨[]⟩⟩), (.int .i64 (Int.ofNat 0)), (.int .i64 (Int.ofNat 0)), (.int .i64 (Int.ofNat 0)), (.int .i64 (Int.ofNat 0)), (.slice none 0 0), (.slice none 0 0), (.int .i64 (Int.ofNat 0))] [(0, 1), (1, 1), (6, 1), (21, 3), (5, 1)])), [.c (.int .i64 (Int.ofNat 8)), .t 28, .t 30, .t 31, .t 32], none⟩,
      ⟨none, (.eff (.store 28)), [.t 4, .t 33], none⟩] false) c69_3)
def c69_1 : C := (.seq (.region [
      ⟨(some 19), (.pure .mov), [.t 0], none⟩,
      ⟨(some 20), (.pure .nilchk), [.t 19], none⟩,
      ⟨(some 21), (.pure (.fadd 9)), [.t 20], none⟩,
      ⟨(some 22), (.read (.load 1 false) []), [.t 21], none⟩,
      ⟨(some 23), (.pure .mov), [.t 1], none⟩,
      ⟨(some 24), (.call 85), [.t 22, .t 23], none⟩,
      ⟨(some 18), (.pure .mov), [.t 24], none⟩,
      ⟨(some 25), (.pure (.extract 0)), [.t 18], none⟩,
      ⟨(some 26), (.pure (.extract 1)), [.t 18], none⟩,
      ⟨(some 7), (.alloc (.alloc [(.int .i64 (Int.ofNat 0)), (.int .i64 (Int.ofNat 0)), (.int .i64 (Int.ofNat 0))])), [], none⟩,
      ⟨none, (.eff (.store 3)), [.t 7, .t 25], none⟩,
      ⟨(some 8), (.pure .mov), [.t 26], none⟩] false) c69_2)
def c69_0 : C := (.seq (.region [
      ⟨(some 10), (.pure .mov), [.t 0], none⟩,
      ⟨(some 11), (.pure .nilchk), [.t 10], none⟩,
      ⟨(some 12), (.pure (.fadd 9)), [.t 11], none⟩,
      ⟨(some 13), (.read (.load 1 false) []), [.t 12], none⟩,
      ⟨(some 14), (.pure .mov), [.t 1], none⟩,
      ⟨(some 15), (.call 84), [.t 13, .t 14], none⟩,
      ⟨(some 9), (.pure .mov), [.t 15], none⟩,
      ⟨(some 16), (.pure (.extract 0)), [.t 9], none⟩,
      ⟨(some 17), (.pure (.extract 1)), [.t 9], none⟩,
      ⟨(some 5), (.alloc (.alloc [(.int .i64 (Int.ofNat 0)), (.int .i64 (Int.ofNat 0)), (.int .i64 (Int.ofNat 0)), (.int .i64 (Int.ofNat 0)), (.int .i64 (Int.ofNat 0)), (.int .i64 (Int.ofNat 0)), (.int .i64 (Int.ofNat 0)), (.int .i64 (Int.ofNat 0)), (.int .i64 (Int.ofNat 0)), (.string ⟨⟨[]⟩⟩)])), [], none⟩,
      ⟨none, (.eff (.store 10)), [.t 5, .t 16], none⟩,
      ⟨(some 6), (.pure .mov), [.t 17], none⟩] false) c69_1)
def k69 : DFn := ⟨34, (.seq (.region [
      ⟨(some 4), (.alloc (.alloc [(.int .i64 (Int.ofNat 0)), (.int .i64 (Int.ofNat 0)), (.int .i64 (Int.ofNat 0)), (.int .i64 (Int.ofNat 0)), (.int .i64 (Int.ofNat 0)), (.int .i64 (Int.ofNat 0)), (.int .i64 (Int.ofNat 0)), (.int .i64 (Int.ofNat 0)), (.int .i64 (Int.ofNat 0)), (.int .i64 (Int.ofNat 0)), (.bool false), (.int .i64 (Int.ofNat 0)), (.int .i64 (Int.ofNat 0)), (.int .i64 (Int.ofNat 0)), (.int .i64 (Int.ofNat 0)), (.int .i64 (Int.ofNat 0)), (.int .i64 (Int.ofNat 0)), (.int .i64 (Int.ofNat 0)), (.int .i64 (Int.ofNat 0)), (.int .i64 (Int.ofNat 0)), (.string ⟨⟨[]⟩⟩), (.int .i64 (Int.ofNat 0)), (.int .i64 (Int.ofNat 0)), (.int .i64 (Int.ofNat 0)), (.int .i64 (Int.ofNat 0)), (.slice none 0 0), (.slice none 0 0), (.int .i64 (Int.ofNat 0))])), [], none⟩] false) c69_0), [.cell 4 28 true]⟩
theorem c69 : (match Tryz.prog.funcs[69]? with | some fn => compileFn Tryz.prog 4 [none, none, none, none, some [4]] fn | none => none) = some k69 := by kernel_rfl


/-- tompion/next.New -/
def c72_2 : C := .ret
def c72_1 : C := (.keep [0] c72_2)
def c72_0 : C := (.seq (.region [
      ⟨(some 1), (.alloc .mkmap), [], none⟩,
      ⟨(some 2), (.pure (.build [(.int .i32 (Int.ofNat 0)), (.int .u32 (Int.ofNat 0)), (.map none), (.int .i64 (Int.ofNat 0)), (.int .i64 (Int.ofNat 0))] [(2, 1)])), [.t 1], none⟩,
      ⟨(some 3), (.alloc .box), [.t 2], none⟩,
      ⟨(some 0), (.pure .mov), [.t 3], none⟩] false) c72_1)
def k72 : DFn := ⟨4, (.seq (.region [
      ⟨(some 0), (.pure .mov), [.c (.pointer none)], none⟩] false) c72_0), [.tmp 0]⟩
theorem c72 : (match Tryz.prog.funcs[72]? with | some fn => compileFn Tryz.prog 4 [none, none, some [0]] fn | none => none) = some k72 := by kernel_rfl


/-- (*tompion/wheel.Wheel).Advance -/
def c73_43 : C := .ret
def c73_42 : C := (.keep [4] c73_43)
def c73_41 : C := (.seq (.region [
      ⟨(some 99), (.pure .mov), [.t 0], none⟩,
      ⟨(some 100), (.pure .mov), [.t 0], none⟩,
      ⟨(some 101), (.pure .nilchk), [.t 100], none⟩,
      ⟨(some 102), (.pure (.fadd 393)), [.t 101], none⟩,
      ⟨(some 103), (.read (.load 1 false) []), [.t 102], none⟩,
      ⟨(some 104), (.pure .mov), [.t 10], none⟩,
      ⟨(some 105), (.pure (.slcS 1 true false false)), [.t 103, .t 104], none⟩,
      ⟨(some 106), (.call 89), [.t 99, .t 105], none⟩,
      ⟨(some 4), (.pure .mov), [.t 106], none⟩] false) c73_42)
def c73_31 : C := (.keep [0, 10] c73_41)
def c73_40 : C := .skip
def c73_34 : C := (.keep [0, 10, 89, 90, 91] c73_40)
def c73_38 : C := (.region [
      ⟨(some 98), (.pure (.bin .add)), [.t 91, .c (.int .i64 (Int.ofNat 1))], none⟩,
      ⟨(some 91), (.pure .mov), [.t 98], none⟩] false)
def c73_39 : C := (.region [
      ⟨(some 95), (.pure .mov), [.t 0], none⟩,
      ⟨(some 96), (.pure .mov), [.t 12], none⟩,
      ⟨(some 97), (.call 88), [.t 95, .t 96], none⟩] false)
def c73_36 : C := (.seq (.block 4 (.seq (.region [
      ⟨(some 93), (.pure (.iaddS 1)), [.t 89, .t 91], none⟩,
      ⟨(some 94), (.read (.load 1 false) []), [.t 93], none⟩,
      ⟨(some 12), (.pure .mov), [.t 94], none⟩] false) c73_39)) c73_38)
def c73_37 : C := (.exit 3)
def c73_35 : C := (.seq (.cond (.t 92) .skip
    (.keep [0, 10] c73_37)) c73_36)
def c73_33 : C := (.seq (.seq (.region [
      ⟨(some 92), (.pure (.bin .lss)), [.t 91, .t 90], none⟩] false) c73_35) c73_34)
def c73_32 : C := (.block 3 (.loop (some [0, 10, 89, 90, 91]) c73_33))
def c73_30 : C := (.seq (.seq (.region [
      ⟨(some 89), (.pure .mov), [.t 7], none⟩,
      ⟨(some 90), (.pure .lenS), [.t 89], none⟩,
      ⟨(some 91), (.pure .mov), [.c (.int .i64 (Int.ofNat 0))], none⟩] false) c73_32) c73_31)
def c73_29 : C := (.seq (.region [
      ⟨(some 84), (.pure .mov), [.t 0], none⟩,
      ⟨(some 85), (.pure .nilchk), [.t 84], none⟩,
      ⟨(some 86), (.pure (.fadd 393)), [.t 85], none⟩,
      ⟨(some 87), (.read (.load 1 false) []), [.t 86], none⟩,
      ⟨(some 88), (.pure .lenS), [.t 87], none⟩,
      ⟨(some 10), (.pure .mov), [.t 88], none⟩] false) c73_30)
def c73_28 : C := (.seq (.region [
      ⟨(some 80), (.pure .mov), [.t 0], none⟩,
      ⟨(some 81), (.pure .mov), [.t 1], none⟩,
      ⟨(some 82), (.pure .nilchk), [.t 80], none⟩,
      ⟨(some 83), (.pure (.fadd 0)), [.t 82], none⟩,
      ⟨none, (.eff (.store 1)), [.t 83, .t 81], none⟩] false) c73_29)
def c73_25 : C := (.keep [0, 1, 7] c73_28)
def c73_27 : C := (.region [
      ⟨(some 77), (.pure .mov), [.t 0], none⟩,
      ⟨(some 78), (.pure .nilchk), [.t 77], none⟩,
      ⟨(some 79), (.pure (.fadd 392)), [.t 78], none⟩,
      ⟨none, (.eff (.store 1)), [.t 79, .c (.slice none 0 0)], none⟩] false)
def c73_26 : C := (.cond (.t 70) (.seq (.region [
      ⟨(some 71), (.pure .mov), [.t 7], none⟩,
      ⟨(some 72), (.pure .mov), [.t 0], none⟩,
      ⟨(some 73), (.pure .nilchk), [.t 72], none⟩,
      ⟨(some 74), (.pure (.fadd 392)), [.t 73], none⟩,
      ⟨(some 75), (.read (.load 1 false) []), [.t 74], none⟩,
      ⟨(some 76), (.eff (.app 1 8)), [.t 71, .t 75], none⟩,
      ⟨(some 7), (.pure .mov), [.t 76], none⟩] false) c73_27)
    .skip)
def c73_24 : C := (.seq (.seq (.region [
      ⟨(some 69), (.pure .mov), [.t 5], none⟩,
      ⟨(some 70), (.pure (.bin .eql)), [.t 69, .c (.int .i64 (Int.ofNat 6))], none⟩] false) c73_26) c73_25)
def c73_9 : C := (.keep [0, 1, 5, 7] c73_24)
def c73_23 : C := .skip
def c73_12 : C := (.keep [0, 1, 5, 7, 31] c73_23)
def c73_22 : C := (.region [
      ⟨(some 68), (.pure (.bin .add)), [.t 31, .c (.int .i64 (Int.ofNat 1))], none⟩,
      ⟨(some 31), (.pure .mov), [.t 68], none⟩] false)
def c73_16 : C := (.keep [0, 1, 5, 7, 31] c73_22)
def c73_20 : C := (.exit 0)
def c73_21 : C := (.cond (.t 60) (.region [
      ⟨(some 64), (.pure .mov), [.t 7], none⟩,
      ⟨(some 65), (.pure .mov), [.t 9], none⟩,
      ⟨(some 66), (.call 87), [.t 65, .c (.int .i64 (Int.ofNat 0)), .c (.int .i64 (Int.ofNat 63))], none⟩,
      ⟨(some 67), (.eff (.app 1 8)), [.t 64, .t 66], none⟩,
      ⟨(some 7), (.pure .mov), [.t 67], none⟩] false)
    (.region [
      ⟨(some 39), (.pure .mov), [.t 7], none⟩,
      ⟨(some 40), (.pure .mov), [.t 9], none⟩,
      ⟨(some 41), (.pure .mov), [.t 0], none⟩,
      ⟨(some 42), (.pure .nilchk), [.t 41], none⟩,
      ⟨(some 43), (.pure (.fadd 0)), [.t 42], none⟩,
      ⟨(some 44), (.read (.load 1 false) []), [.t 43], none⟩,
      ⟨(some 45), (.pure .mov), [.t 8], none⟩,
      ⟨(some 46), (.pure (.bin .mul)), [.c (.int .i64 (Int.ofNat 6)), .t 45], none⟩,
      ⟨(some 47), (.pure (.bin .shr)), [.t 44, .t 46], none⟩,
      ⟨(some 48), (.pure (.bin .and)), [.t 47, .c (.int .i64 (Int.ofNat 63))], none⟩,
      ⟨(some 49), (.pure .mov), [.t 1], none⟩,
      ⟨(some 50), (.pure .mov), [.t 8], none⟩,
      ⟨(some 51), (.pure (.bin .mul)), [.c (.int .i64 (Int.ofNat 6)), .t 50], none⟩,
      ⟨(some 52), (.pure (.bin .shr)), [.t 49, .t 51], none⟩,
      ⟨(some 53), (.pure (.bin .and)), [.t 52, .c (.int .i64 (Int.ofNat 63))], none⟩,
      ⟨(some 54), (.call 87), [.t 40, .t 48, .t 53], none⟩,
      ⟨(some 55), (.eff (.app 1 8)), [.t 39, .t 54], none⟩,
      ⟨(some 7), (.pure .mov), [.t 55], none⟩] false))
def c73_19 : C := (.cond (.t 56) (.keep [0, 1, 5, 7] c73_20)
    (.seq (.region [
      ⟨(some 61), (.pure .mov), [.t 8], none⟩,
      ⟨(some 62), (.pure .mov), [.t 5], none⟩,
      ⟨(some 63), (.pure (.bin .lss)), [.t 61, .t 62], none⟩,
      ⟨(some 60), (.pure .mov), [.t 63], none⟩] false) c73_21))
def c73_18 : C := (.block 2 (.seq (.region [
      ⟨(some 57), (.pure .mov), [.t 8], none⟩,
      ⟨(some 58), (.pure .mov), [.t 5], none⟩,
      ⟨(some 59), (.pure (.bin .gtr)), [.t 57, .t 58], none⟩,
      ⟨(some 56), (.pure .mov), [.t 59], none⟩] false) c73_19))
def c73_17 : C := (.seq (.region [
      ⟨(some 34), (.pure .mov), [.t 0], none⟩,
      ⟨(some 35), (.pure .mov), [.t 8], none⟩,
      ⟨(some 36), (.pure .nilchk), [.t 34], none⟩,
      ⟨(some 37), (.pure (.fadd 2)), [.t 36], none⟩,
      ⟨(some 38), (.pure (.iaddA 6 65)), [.t 37, .t 35], none⟩,
      ⟨(some 9), (.pure .mov), [.t 38], none⟩] false) c73_18)
def c73_14 : C := (.seq (.block 1 (.seq (.region [
      ⟨(some 33), (.pure .mov), [.t 31], none⟩,
      ⟨(some 8), (.pure .mov), [.t 33], none⟩] false) c73_17)) c73_16)
def c73_15 : C := (.exit 0)
def c73_13 : C := (.seq (.cond (.t 32) .skip
    (.keep [0, 1, 5, 7] c73_15)) c73_14)
def c73_11 : C := (.seq (.seq (.region [
      ⟨(some 32), (.pure (.bin .lss)), [.t 31, .c (.int .i64 (Int.ofNat 6))], none⟩] false) c73_13) c73_12)
def c73_10 : C := (.block 0 (.loop (some [0, 1, 5, 7, 31]) c73_11))
def c73_8 : C := (.seq (.seq (.region [
      ⟨(some 31), (.pure .mov), [.c (.int .i64 (Int.ofNat 0))], none⟩] false) c73_10) c73_9)
def c73_7 : C := (.seq .skip c73_8)
def c73_6 : C := (.seq (.region [
      ⟨(some 7), (.pure .mov), [.c (.slice none 0 0)], none⟩] false) c73_7)
def c73_5 : C := (.seq (.region [
      ⟨(some 26), (.pure .mov), [.t 0], none⟩,
      ⟨(some 27), (.pure .mov), [.t 1], none⟩,
      ⟨(some 28), (.call 86), [.t 26, .t 27], none⟩,
      ⟨(some 25), (.pure .mov), [.t 28], none⟩,
      ⟨(some 29), (.pure (.extract 0)), [.t 25], none⟩,
      ⟨(some 30), (.pure (.extract 1)), [.t 25], none⟩,
      ⟨(some 5), (.pure .mov), [.t 29], none⟩,
      ⟨(some 6), (.pure .mov), [.t 30], none⟩] false) c73_6)
def c73_1 : C := (.seq (.region [
      ⟨(some 23), (.pure .mov), [.t 1], none⟩,
      ⟨(some 24), (.pure .min), [.t 23, .c (.int .i64 (Int.ofNat 1099511627776))], none⟩,
      ⟨(some 1), (.pure .mov), [.t 24], none⟩] false) c73_5)
def c73_4 : C := .ret
def c73_3 : C := (.keep [4] c73_4)
def c73_2 : C := (.cond (.t 22) (.seq (.region [
      ⟨(some 4), (.pure .mov), [.c (.slice none 0 0)], none⟩] false) c73_3)
    .skip)
def c73_0 : C := (.seq (.seq (.region [
      ⟨(some 13), (.pure .mov), [.t 0], none⟩,
      ⟨(some 14), (.pure (.nilEq false .ptr)), [.t 13], none⟩,
      ⟨(some 15), (.pure .mov), [.t 14], none⟩,
      ⟨(some 16), (.pure .mov), [.t 1], (some (15, false))⟩,
      ⟨(some 17), (.pure .mov), [.t 0], (some (15, false))⟩,
      ⟨(some 18), (.pure .nilchk), [.t 17], (some (15, false))⟩,
      ⟨(some 19), (.pure (.fadd 0)), [.t 18], (some (15, false))⟩,
      ⟨(some 20), (.read (.load 1 false) []), [.t 19], (some (15, false))⟩,
      ⟨(some 21), (.pure (.bin .leq)), [.t 16, .t 20], (some (15, false))⟩,
      ⟨(some 22), (.pure .pick), [.t 15, .c (.bool true), .t 21], none⟩] false) c73_2) c73_1)
def k73 : DFn := ⟨107, (.seq (.region [
      ⟨(some 4), (.pure .mov), [.c (.slice none 0 0)], none⟩] false) c73_0), [.tmp 4]⟩
theorem c73 : (match Tryz.prog.funcs[73]? with | some fn => compileFn Tryz.prog 4 [none, none, none, none, some [4], none, none, none, none, some [0, 1, 5, 7], none, some [0, 1, 5, 7, 31], none, none, some [0, 1, 5, 7], some [0, 1, 5, 7, 31], none, none, none, some [0, 1, 5, 7], none, some [0, 1, 7], none, none, none, none, some [0, 10], none, some [0, 10, 89, 90, 91], none, none, some [0, 10], none, none, none, some [4]] fn | none => none) = some k73 := by kernel_rfl


/-- (*tompion/wheel.Wheel).Due -/
def c74_7 : C := .ret
def c74_6 : C := (.keep [4] c74_7)
def c74_5 : C := (.seq (.region [
      ⟨(some 14), (.pure .mov), [.t 5], none⟩,
      ⟨(some 15), (.pure .mov), [.t 1], none⟩,
      ⟨(some 16), (.pure .max), [.t 15, .c (.int .i64 (Int.ofNat 0))], none⟩,
      ⟨(some 17), (.pure .mov), [.t 5], none⟩,
      ⟨(some 18), (.pure .lenS), [.t 17], none⟩,
      ⟨(some 19), (.pure .min), [.t 16, .t 18], none⟩,
      ⟨(some 20), (.pure (.slcS 2 false true false)), [.t 14, .t 19], none⟩,
      ⟨(some 4), (.pure .mov), [.t 20], none⟩] false) c74_6)
def c74_1 : C := (.seq (.region [
      ⟨(some 8), (.pure .mov), [.t 0], none⟩,
      ⟨(some 9), (.pure .mov), [.t 0], none⟩,
      ⟨(some 10), (.pure .nilchk), [.t 9], none⟩,
      ⟨(some 11), (.pure (.fadd 393)), [.t 10], none⟩,
      ⟨(some 12), (.read (.load 1 false) []), [.t 11], none⟩,
      ⟨(some 13), (.call 89), [.t 8, .t 12], none⟩,
      ⟨(some 5), (.pure .mov), [.t 13], none⟩] false) c74_5)
def c74_4 : C := .ret
def c74_3 : C := (.keep [4] c74_4)
def c74_2 : C := (.cond (.t 7) (.seq (.region [
      ⟨(some 4), (.pure .mov), [.c (.slice none 0 0)], none⟩] false) c74_3)
    .skip)
def c74_0 : C := (.seq (.seq (.region [
      ⟨(some 6), (.pure .mov), [.t 0], none⟩,
      ⟨(some 7), (.pure (.nilEq false .ptr)), [.t 6], none⟩] false) c74_2) c74_1)
def k74 : DFn := ⟨21, (.seq (.region [
      ⟨(some 4), (.pure .mov), [.c (.slice none 0 0)], none⟩] false) c74_0), [.tmp 4]⟩
theorem c74 : (match Tryz.prog.funcs[74]? with | some fn => compileFn Tryz.prog 4 [none, none, none, none, some [4], none, none, some [4]] fn | none => none) = some k74 := by kernel_rfl


/-- (*tompion/state.State).Get -/
def c75_11 : C := .ret
def c75_10 : C := (.keep [4, 5] c75_11)
def c75_5 : C := (.seq (.region [
      ⟨(some 22), (.pure (.build [(.int .i64 (Int.ofNat 0)), (.int .i64 (Int.ofNat 0)), (.int .i64 (Int.ofNat 0)), (.int .i64 (Int.ofNat 0)), (.string ⟨⟨[]⟩⟩)] [])), [], none⟩,
      ⟨none, (.eff (.store 5)), [.t 4, .t 22], none⟩,
      ⟨(some 5), (.pure .mov), [.c (.int .i64 (Int.ofNat 6))], none⟩] false) c75_10)
def c75_9 : C := .ret
def c75_8 : C := (.keep [4, 5] c75_9)
def c75_7 : C := (.cond (.t 20) (.seq (.region [
      ⟨(some 21), (.read (.load 5 true) []), [.t 6], none⟩,
      ⟨none, (.eff (.store 5)), [.t 4, .t 21], none⟩,
      ⟨(some 5), (.pure .mov), [.c (.int .i64 (Int.ofNat 0))], none⟩] false) c75_8)
    .skip)
def c75_6 : C := (.seq (.region [
      ⟨(some 20), (.pure .mov), [.t 7], none⟩] false) c75_7)
def c75_1 : C := (.seq (.seq (.region [
      ⟨(some 12), (.pure .mov), [.t 0], none⟩,
      ⟨(some 13), (.pure .nilchk), [.t 12], none⟩,
      ⟨(some 14), (.pure (.fadd 2)), [.t 13], none⟩,
      ⟨(some 15), (.read (.load 1 false) []), [.t 14], none⟩,
      ⟨(some 16), (.pure .mov), [.t 1], none⟩,
      ⟨(some 17), (.read (.lookup (.one .i) (.agg ⟨[(.int .i64 (Int.ofNat 0)), (.int .i64 (Int.ofNat 0)), (.int .i64 (Int.ofNat 0)), (.int .i64 (Int.ofNat 0)), (.string ⟨⟨[]⟩⟩)]⟩) true) []), [.t 15, .t 16], none⟩,
      ⟨(some 11), (.pure .mov), [.t 17], none⟩,
      ⟨(some 18), (.pure (.extract 0)), [.t 11], none⟩,
      ⟨(some 19), (.pure (.extract 1)), [.t 11], none⟩,
      ⟨(some 6), (.alloc (.alloc [(.int .i64 (Int.ofNat 0)), (.int .i64 (Int.ofNat 0)), (.int .i64 (Int.ofNat 0)), (.int .i64 (Int.ofNat 0)), (.string ⟨⟨[]⟩⟩)])), [], none⟩,
      ⟨none, (.eff (.store 5)), [.t 6, .t 18], none⟩,
      ⟨(some 7), (.pure .mov), [.t 19], none⟩] false) c75_6) c75_5)
def c75_4 : C := .ret
def c75_3 : C := (.keep [4, 5] c75_4)
def c75_2 : C := (.cond (.t 9) (.seq (.region [
      ⟨(some 10), (.pure (.build [(.int .i64 (Int.ofNat 0)), (.int .i64 (Int.ofNat 0)), (.int .i64 (Int.ofNat 0)), (.int .i64 (Int.ofNat 0)), (.string ⟨⟨[]⟩⟩)] [])), [], none⟩,
      ⟨none, (.eff (.store 5)), [.t 4, .t 10], none⟩,
      ⟨(some 5), (.pure .mov), [.c (.int .i64 (Int.ofNat 12))], none⟩] false) c75_3)
    .skip)
def c75_0 : C := (.seq (.seq (.region [
      ⟨(some 8), (.pure .mov), [.t 0], none⟩,
      ⟨(some 9), (.pure (.nilEq false .ptr)), [.t 8], none⟩] false) c75_2) c75_1)
def k75 : DFn := ⟨23, (.seq (.region [
      ⟨(some 4), (.alloc (.alloc [(.int .i64 (Int.ofNat 0)), (.int .i64 (Int.ofNat 0)), (.int .i64 (Int.ofNat 0)), (.int .i64 (Int.ofNat 0)), (.string ⟨⟨[]⟩⟩)])), [], none⟩,
      ⟨(some 5), (.pure .mov), [.c (.int .i64 (Int.ofNat 0))], none⟩] false) c75_0), [.cell 4 5 true, .tmp 5]⟩
theorem c75 : (match Tryz.prog.funcs[75]? with | some fn => compileFn Tryz.prog 4 [none, none, none, none, some [4, 5], none, none, none, none, some [4, 5], none, some [4, 5]] fn | none => none) = some k75 := by kernel_rfl


/-- (*tompion/oplog.Log).did -/
def c76_7 : C := .ret
def c76_6 : C := (.keep [4] c76_7)
def c76_5 : C := (.seq (.region [
      ⟨(some 26), (.pure .mov), [.t 7], none⟩,
      ⟨(some 27), (.pure (.un .not)), [.t 26], none⟩,
      ⟨(some 28), (.pure .mov), [.t 27], none⟩,
      ⟨(some 29), (.pure .mov), [.t 5], (some (28, false))⟩,
      ⟨(some 30), (.pure .mov), [.t 1], (some (28, false))⟩,
      ⟨(some 31), (.pure .nilchk), [.t 30], (some (28, false))⟩,
      ⟨(some 32), (.pure (.fadd 2)), [.t 31], (some (28, false))⟩,
      ⟨(some 33), (.read (.load 1 false) []), [.t 32], (some (28, false))⟩,
      ⟨(some 34), (.pure (.bin .lss)), [.t 29, .t 33], (some (28, false))⟩,
      ⟨(some 35), (.pure .pick), [.t 28, .c (.bool true), .t 34], none⟩,
      ⟨(some 4), (.pure .mov), [.t 35], none⟩] false) c76_6)
def c76_1 : C := (.seq (.region [
      ⟨(some 14), (.pure .mov), [.t 0], none⟩,
      ⟨(some 15), (.pure .nilchk), [.t 14], none⟩,
      ⟨(some 16), (.pure (.fadd 0)), [.t 15], none⟩,
      ⟨(some 17), (.read (.load 1 false) []), [.t 16], none⟩,
      ⟨(some 18), (.pure .mov), [.t 1], none⟩,
      ⟨(some 19), (.pure .nilchk), [.t 18], none⟩,
      ⟨(some 20), (.pure (.fadd 1)), [.t 19], none⟩,
      ⟨(some 21), (.read (.load 1 false) []), [.t 20], none⟩,
      ⟨(some 22), (.call 90), [.t 17, .t 21], none⟩,
      ⟨(some 13), (.pure .mov), [.t 22], none⟩,
      ⟨(some 23), (.pure (.extract 0)), [.t 13], none⟩,
      ⟨(some 24), (.pure (.extract 1)), [.t 13], none⟩,
      ⟨(some 25), (.pure (.extract 2)), [.t 13], none⟩,
      ⟨(some 6), (.alloc (.alloc [(.int .i64 (Int.ofNat 0)), (.int .i64 (Int.ofNat 0)), (.int .i64 (Int.ofNat 0))])), [], none⟩,
      ⟨(some 5), (.pure .mov), [.t 23], none⟩,
      ⟨none, (.eff (.store 3)), [.t 6, .t 24], none⟩,
      ⟨(some 7), (.pure .mov), [.t 25], none⟩] false) c76_5)
def c76_4 : C := .ret
def c76_3 : C := (.keep [4] c76_4)
def c76_2 : C := (.cond (.t 12) (.seq (.region [
      ⟨(some 4), (.pure .mov), [.c (.bool true)], none⟩] false) c76_3)
    .skip)
def c76_0 : C := (.seq (.seq (.region [
      ⟨(some 8), (.pure .mov), [.t 1], none⟩,
      ⟨(some 9), (.pure .nilchk), [.t 8], none⟩,
      ⟨(some 10), (.pure (.fadd 0)), [.t 9], none⟩,
      ⟨(some 11), (.read (.load 1 false) []), [.t 10], none⟩,
      ⟨(some 12), (.pure (.bin .eql)), [.t 11, .c (.int .i64 (Int.ofNat 3))], none⟩] false) c76_2) c76_1)
def k76 : DFn := ⟨36, (.seq (.region [
      ⟨(some 4), (.pure .mov), [.c (.bool false)], none⟩] false) c76_0), [.tmp 4]⟩
theorem c76 : (match Tryz.prog.funcs[76]? with | some fn => compileFn Tryz.prog 4 [none, none, none, none, some [4], none, none, some [4]] fn | none => none) = some k76 := by kernel_rfl


/-- (*tompion/state.State).Apply -/
def c77_17 : C := .ret
def c77_16 : C := (.keep [4] c77_17)
def c77_5 : C := (.seq (.region [
      ⟨(some 26), (.pure (.build [(.int .i64 (Int.ofNat 0)), (.int .i64 (Int.ofNat 0)), (.int .i64 (Int.ofNat 0))] [(0, 1)])), [.c (.int .i64 (Int.ofNat 1))], none⟩,
      ⟨none, (.eff (.store 3)), [.t 4, .t 26], none⟩] false) c77_16)
def c77_9 : C := .ret
def c77_8 : C := (.keep [4] c77_9)
def c77_12 : C := .ret
def c77_11 : C := (.keep [4] c77_12)
def c77_15 : C := .ret
def c77_14 : C := (.keep [4] c77_15)
def c77_13 : C := (.cond (.t 22) (.seq (.region [
      ⟨(some 24), (.pure .mov), [.t 0], none⟩,
      ⟨(some 25), (.call 94), [.t 24, .t 3], none⟩,
      ⟨none, (.eff (.store 3)), [.t 4, .t 25], none⟩] false) c77_14)
    .skip)
def c77_10 : C := (.cond (.t 16) (.seq (.region [
      ⟨(some 18), (.pure .mov), [.t 0], none⟩,
      ⟨(some 19), (.pure .mov), [.t 0], none⟩,
      ⟨(some 20), (.pure (.func (.func 93) 1)), [.t 19], none⟩,
      ⟨(some 21), (.call 91), [.t 18, .t 3, .t 20], none⟩,
      ⟨none, (.eff (.store 3)), [.t 4, .t 21], none⟩] false) c77_11)
    (.seq (.region [
      ⟨(some 23), (.pure (.bin .eql)), [.t 9, .c (.int .i64 (Int.ofNat 3))], none⟩,
      ⟨(some 22), (.pure .mov), [.t 23], none⟩] false) c77_13))
def c77_7 : C := (.cond (.t 10) (.seq (.region [
      ⟨(some 12), (.pure .mov), [.t 0], none⟩,
      ⟨(some 13), (.pure .mov), [.t 0], none⟩,
      ⟨(some 14), (.pure (.func (.func 92) 1)), [.t 13], none⟩,
      ⟨(some 15), (.call 91), [.t 12, .t 3, .t 14], none⟩,
      ⟨none, (.eff (.store 3)), [.t 4, .t 15], none⟩] false) c77_8)
    (.seq (.region [
      ⟨(some 17), (.pure (.bin .eql)), [.t 9, .c (.int .i64 (Int.ofNat 2))], none⟩,
      ⟨(some 16), (.pure .mov), [.t 17], none⟩] false) c77_10))
def c77_6 : C := (.block 0 (.seq (.region [
      ⟨(some 11), (.pure (.bin .eql)), [.t 9, .c (.int .i64 (Int.ofNat 1))], none⟩,
      ⟨(some 10), (.pure .mov), [.t 11], none⟩] false) c77_7))
def c77_1 : C := (.seq (.seq (.region [
      ⟨(some 8), (.pure (.fadd 0)), [.t 3], none⟩,
      ⟨(some 9), (.read (.load 1 false) []), [.t 8], none⟩] false) c77_6) c77_5)
def c77_4 : C := .ret
def c77_3 : C := (.keep [4] c77_4)
def c77_2 : C := (.cond (.t 6) (.seq (.region [
      ⟨(some 7), (.pure (.build [(.int .i64 (Int.ofNat 0)), (.int .i64 (Int.ofNat 0)), (.int .i64 (Int.ofNat 0))] [(0, 1)])), [.c (.int .i64 (Int.ofNat 12))], none⟩,
      ⟨none, (.eff (.store 3)), [.t 4, .t 7], none⟩] false) c77_3)
    .skip)
def c77_0 : C := (.seq (.seq (.region [
      ⟨(some 5), (.pure .mov), [.t 0], none⟩,
      ⟨(some 6), (.pure (.nilEq false .ptr)), [.t 5], none⟩] false) c77_2) c77_1)
def k77 : DFn := ⟨27, (.seq (.region [
      ⟨(some 3), (.alloc .box), [.t 1], none⟩,
      ⟨(some 4), (.alloc (.alloc [(.int .i64 (Int.ofNat 0)), (.int .i64 (Int.ofNat 0)), (.int .i64 (Int.ofNat 0))])), [], none⟩] false) c77_0), [.cell 4 3 true]⟩
theorem c77 : (match Tryz.prog.funcs[77]? with | some fn => compileFn Tryz.prog 4 [none, none, none, none, some [4], none, none, none, none, some [4], none, none, some [4], none, none, some [4], none, some [4]] fn | none => none) = some k77 := by kernel_rfl


/-- (*tompion/oplog.Log).note -/
def c78_3 : C := (.cond (.t 47) (.region [
      ⟨(some 48), (.pure .mov), [.t 0], none⟩,
      ⟨(some 49), (.pure .nilchk), [.t 48], none⟩,
      ⟨(some 50), (.pure (.fadd 4)), [.t 49], none⟩,
      ⟨(some 51), (.read (.load 1 false) []), [.t 50], none⟩,
      ⟨(some 52), (.pure .mov), [.t 2], none⟩,
      ⟨(some 53), (.pure (.fadd 3)), [.t 6], none⟩,
      ⟨(some 54), (.read (.load 1 false) []), [.t 53], none⟩,
      ⟨(some 55), (.call 96), [.t 51, .t 52, .t 54], none⟩] false)
    .skip)
def c78_2 : C := (.seq (.region [
      ⟨(some 41), (.pure .mov), [.t 7], none⟩,
      ⟨(some 42), (.pure (.bin .eql)), [.t 41, .c (.int .i64 (Int.ofNat 0))], none⟩,
      ⟨(some 43), (.pure .mov), [.t 42], none⟩,
      ⟨(some 44), (.pure (.fadd 3)), [.t 6], (some (43, true))⟩,
      ⟨(some 45), (.read (.load 1 false) []), [.t 44], (some (43, true))⟩,
      ⟨(some 46), (.pure (.bin .gtr)), [.t 45, .c (.int .i64 (Int.ofNat 0))], (some (43, true))⟩,
      ⟨(some 47), (.pure .pick), [.t 43, .t 46, .c (.bool false)], none⟩] false) c78_3)
def c78_1 : C := (.seq (.region [
      ⟨(some 35), (.pure .mov), [.t 0], none⟩,
      ⟨(some 36), (.pure .nilchk), [.t 35], none⟩,
      ⟨(some 37), (.pure (.fadd 4)), [.t 36], none⟩,
      ⟨(some 38), (.read (.load 1 false) []), [.t 37], none⟩,
      ⟨(some 39), (.pure .mov), [.t 2], none⟩,
      ⟨(some 40), (.call 95), [.t 38, .t 39], none⟩] false) c78_2)
def c78_0 : C := (.seq (.region [
      ⟨(some 17), (.pure .mov), [.t 0], none⟩,
      ⟨(some 18), (.pure .nilchk), [.t 17], none⟩,
      ⟨(some 19), (.pure (.fadd 2)), [.t 18], none⟩,
      ⟨(some 20), (.read (.load 1 false) [18]), [.t 19], none⟩,
      ⟨(some 21), (.pure .mov), [.t 2], none⟩,
      ⟨(some 22), (.pure .mov), [.t 0], none⟩,
      ⟨(some 23), (.pure .nilchk), [.t 22], none⟩,
      ⟨(some 24), (.pure (.fadd 2)), [.t 23], none⟩,
      ⟨(some 25), (.read (.load 1 false) []), [.t 24], none⟩,
      ⟨(some 26), (.pure .mov), [.t 2], none⟩,
      ⟨(some 27), (.read (.lookup (.one .i) (.slice none 0 0) false) []), [.t 25, .t 26], none⟩,
      ⟨(some 28), (.pure .mov), [.t 1], none⟩,
      ⟨(some 29), (.pure .mov), [.t 7], none⟩,
      ⟨(some 30), (.pure (.bin .eql)), [.t 29, .c (.int .i64 (Int.ofNat 0))], none⟩,
      ⟨(some 31), (.read (.load 5 true) []), [.t 6], none⟩,
      ⟨(some 32), (.pure (.build [(.int .i64 (Int.ofNat 0)), (.bool false), (.int .i64 (Int.ofNat 0)), (.int .i64 (Int.ofNat 0)), (.int .i64 (Int.ofNat 0)), (.int .i64 (Int.ofNat 0)), (.string ⟨⟨[]⟩⟩)] [(0, 1), (1, 1), (2, 5)])), [.t 28, .t 30, .t 31], none⟩,
      ⟨(some 33), (.alloc (.bslice [(.int .i64 (Int.ofNat 0)), (.bool false), (.int .i64 (Int.ofNat 0)), (.int .i64 (Int.ofNat 0)), (.int .i64 (Int.ofNat 0)), (.int .i64 (Int.ofNat 0)), (.string ⟨⟨[]⟩⟩)] [(0, 7)] 7 1)), [.t 32], none⟩,
      ⟨(some 34), (.eff (.app 7 64)), [.t 27, .t 33], none⟩,
      ⟨none, (.eff (.mupd (.one .i))), [.t 20, .t 21, .t 34], none⟩] true) c78_1)
def k78 : DFn := ⟨56, (.seq (.region [
      ⟨(some 9), (.pure .mov), [.t 0], none⟩,
      ⟨(some 10), (.pure .nilchk), [.t 9], none⟩,
      ⟨(some 11), (.pure (.fadd 0)), [.t 10], none⟩,
      ⟨(some 12), (.read (.load 1 false) []), [.t 11], none⟩,
      ⟨(some 13), (.pure .mov), [.t 2], none⟩,
      ⟨(some 14), (.call 75), [.t 12, .t 13], none⟩,
      ⟨(some 8), (.pure .mov), [.t 14], none⟩,
      ⟨(some 15), (.pure (.extract 0)), [.t 8], none⟩,
      ⟨(some 16), (.pure (.extract 1)), [.t 8], none⟩,
      ⟨(some 6), (.alloc (.alloc [(.int .i64 (Int.ofNat 0)), (.int .i64 (Int.ofNat 0)), (.int .i64 (Int.ofNat 0)), (.int .i64 (Int.ofNat 0)), (.string ⟨⟨[]⟩⟩)])), [], none⟩,
      ⟨none, (.eff (.store 5)), [.t 6, .t 15], none⟩,
      ⟨(some 7), (.pure .mov), [.t 16], none⟩] false) c78_0), []⟩
theorem c78 : (match Tryz.prog.funcs[78]? with | some fn => compileFn Tryz.prog 4 [none, none, none, none] fn | none => none) = some k78 := by kernel_rfl


/-- (*tompion/node.Node).tell -/
def c79_14 : C := .ret
def c79_13 : C := (.keep [4] c79_14)
def c79_12 : C := (.seq (.region [
      ⟨(some 4), (.pure .mov), [.c (.slice none 0 0)], none⟩] false) c79_13)
def c79_2 : C := (.keep [] c79_12)
def c79_6 : C := .ret
def c79_5 : C := (.keep [4] c79_6)
def c79_4 : C := (.cond (.t 29) (.seq (.region [
      ⟨(some 30), (.pure .mov), [.t 0], none⟩,
      ⟨(some 31), (.pure .mov), [.t 1], none⟩,
      ⟨(some 32), (.call 69), [.t 30, .t 31], none⟩,
      ⟨(some 33), (.alloc (.bslice [(.int .i64 (Int.ofNat 0)), (.int .i64 (Int.ofNat 0)), (.int .i64 (Int.ofNat 0)), (.int .i64 (Int.ofNat 0)), (.int .i64 (Int.ofNat 0)), (.int .i64 (Int.ofNat 0)), (.int .i64 (Int.ofNat 0)), (.int .i64 (Int.ofNat 0)), (.int .i64 (Int.ofNat 0)), (.int .i64 (Int.ofNat 0)), (.bool false), (.int .i64 (Int.ofNat 0)), (.int .i64 (Int.ofNat 0)), (.int .i64 (Int.ofNat 0)), (.int .i64 (Int.ofNat 0)), (.int .i64 (Int.ofNat 0)), (.int .i64 (Int.ofNat 0)), (.int .i64 (Int.ofNat 0)), (.int .i64 (Int.ofNat 0)), (.int .i64 (Int.ofNat 0)), (.string ⟨⟨[]⟩⟩), (.int .i64 (Int.ofNat 0)), (.int .i64 (Int.ofNat 0)), (.int .i64 (Int.ofNat 0)), (.int .i64 (Int.ofNat 0)), (.slice none 0 0), (.slice none 0 0), (.int .i64 (Int.ofNat 0))] [(0, 28)] 28 1)), [.t 32], none⟩,
      ⟨(some 4), (.pure .mov), [.t 33], none⟩] false) c79_5)
    .skip)
def c79_11 : C := .ret
def c79_10 : C := (.keep [4] c79_11)
def c79_9 : C := (.cond (.t 52) (.seq (.region [
      ⟨(some 53), (.pure (.fadd 1)), [.t 7], none⟩,
      ⟨(some 54), (.read (.load 1 false) []), [.t 53], none⟩,
      ⟨(some 55), (.read (.load 6 true) []), [.t 7], none⟩,
      ⟨(some 56), (.alloc (.bslice [(.int .i64 (Int.ofNat 0)), (.int .i64 (Int.ofNat 0)), (.int .i64 (Int.ofNat 0)), (.int .i64 (Int.ofNat 0)), (.int .i64 (Int.ofNat 0)), (.int .i64 (Int.ofNat 0))] [(0, 6)] 6 1)), [.t 55], none⟩,
      ⟨(some 57), (.pure (.build [(.int .i64 (Int.ofNat 0)), (.int .i64 (Int.ofNat 0)), (.int .i64 (Int.ofNat 0)), (.int .i64 (Int.ofNat 0)), (.int .i64 (Int.ofNat 0)), (.int .i64 (Int.ofNat 0)), (.int .i64 (Int.ofNat 0)), (.int .i64 (Int.ofNat 0)), (.int .i64 (Int.ofNat 0)), (.int .i64 (Int.ofNat 0)), (.bool false), (.int .i64 (Int.ofNat 0)), (.int .i64 (Int.ofNat 0)), (.int .i64 (Int.ofNat 0)), (.int .i64 (Int.ofNat 0)), (.int .i64 (Int.ofNat 0)), (.int .i64 (Int.ofNat 0)), (.int .i64 (Int.ofNat 0)), (.int .i64 (Int.ofNat 0)), (.int .i64 (Int.ofNat 0)), (.string ⟨⟨[]⟩⟩), (.int .i64 (Int.ofNat 0)), (.int .i64 (Int.ofNat 0)), (.int .i64 (Int.ofNat 0)), (.int .i64 (Int.ofNat 0)), (.slice none 0 0), (.slice none 0 0), (.int .i64 (Int.ofNat 0))] [(0, 1), (1, 1), (26, 1)])), [.c (.int .i64 (Int.ofNat 14)), .t 54, .t 56], none⟩,
      ⟨(some 58), (.alloc (.bslice [(.int .i64 (Int.ofNat 0)), (.int .i64 (Int.ofNat 0)), (.int .i64 (Int.ofNat 0)), (.int .i64 (Int.ofNat 0)), (.int .i64 (Int.ofNat 0)), (.int .i64 (Int.ofNat 0)), (.int .i64 (Int.ofNat 0)), (.int .i64 (Int.ofNat 0)), (.int .i64 (Int.ofNat 0)), (.int .i64 (Int.ofNat 0)), (.bool false), (.int .i64 (Int.ofNat 0)), (.int .i64 (Int.ofNat 0)), (.int .i64 (Int.ofNat 0)), (.int .i64 (Int.ofNat 0)), (.int .i64 (Int.ofNat 0)), (.int .i64 (Int.ofNat 0)), (.int .i64 (Int.ofNat 0)), (.int .i64 (Int.ofNat 0)), (.int .i64 (Int.ofNat 0)), (.string ⟨⟨[]⟩⟩), (.int .i64 (Int.ofNat 0)), (.int .i64 (Int.ofNat 0)), (.int .i64 (Int.ofNat 0)), (.int .i64 (Int.ofNat 0)), (.slice none 0 0), (.slice none 0 0), (.int .i64 (Int.ofNat 0))] [(0, 28)] 28 1)), [.t 57], none⟩,
      ⟨(some 4), (.pure .mov), [.t 58], none⟩] false) c79_10)
    .skip)
def c79_8 : C := (.seq (.region [
      ⟨(some 47), (.pure .mov), [.t 8], none⟩,
      ⟨(some 48), (.pure .mov), [.t 47], none⟩,
      ⟨(some 49), (.pure (.fadd 1)), [.t 7], (some (48, true))⟩,
      ⟨(some 50), (.read (.load 1 false) []), [.t 49], (some (48, true))⟩,
      ⟨(some 51), (.pure (.bin .geq)), [.t 50, .c (.int .i64 (Int.ofNat 100))], (some (48, true))⟩,
      ⟨(some 52), (.pure .pick), [.t 48, .t 51, .c (.bool false)], none⟩] false) c79_9)
def c79_7 : C := (.cond (.t 34) (.seq (.region [
      ⟨(some 39), (.pure .mov), [.t 0], none⟩,
      ⟨(some 40), (.pure .nilchk), [.t 39], none⟩,
      ⟨(some 41), (.pure (.fadd 9)), [.t 40], none⟩,
      ⟨(some 42), (.read (.load 1 false) []), [.t 41], none⟩,
      ⟨(some 43), (.pure .mov), [.t 1], none⟩,
      ⟨(some 44), (.call 97), [.t 42, .t 43], none⟩,
      ⟨(some 38), (.pure .mov), [.t 44], none⟩,
      ⟨(some 45), (.pure (.extract 0)), [.t 38], none⟩,
      ⟨(some 46), (.pure (.extract 1)), [.t 38], none⟩,
      ⟨(some 7), (.alloc (.alloc [(.int .i64 (Int.ofNat 0)), (.int .i64 (Int.ofNat 0)), (.int .i64 (Int.ofNat 0)), (.int .i64 (Int.ofNat 0)), (.int .i64 (Int.ofNat 0)), (.int .i64 (Int.ofNat 0))])), [], none⟩,
      ⟨none, (.eff (.store 6)), [.t 7, .t 45], none⟩,
      ⟨(some 8), (.pure .mov), [.t 46], none⟩] false) c79_8)
    .skip)
def c79_3 : C := (.cond (.t 18) (.seq (.region [
      ⟨(some 27), (.pure (.fadd 1)), [.t 5], none⟩,
      ⟨(some 28), (.read (.load 1 false) []), [.t 27], none⟩,
      ⟨(some 29), (.pure (.bin .geq)), [.t 28, .c (.int .i64 (Int.ofNat 100))], none⟩] false) c79_4)
    (.seq (.region [
      ⟨(some 35), (.pure (.fadd 0)), [.t 5], none⟩,
      ⟨(some 36), (.read (.load 1 false) []), [.t 35], none⟩,
      ⟨(some 37), (.pure (.bin .eql)), [.t 36, .c (.int .i64 (Int.ofNat 3))], none⟩,
      ⟨(some 34), (.pure .mov), [.t 37], none⟩] false) c79_7))
def c79_1 : C := (.seq (.block 0 (.seq (.region [
      ⟨(some 19), (.pure (.fadd 0)), [.t 5], none⟩,
      ⟨(some 20), (.read (.load 1 false) []), [.t 19], none⟩,
      ⟨(some 21), (.pure (.bin .eql)), [.t 20, .c (.int .i64 (Int.ofNat 1))], none⟩,
      ⟨(some 22), (.pure .mov), [.t 21], none⟩,
      ⟨(some 23), (.pure (.fadd 0)), [.t 5], (some (22, false))⟩,
      ⟨(some 24), (.read (.load 1 false) []), [.t 23], (some (22, false))⟩,
      ⟨(some 25), (.pure (.bin .eql)), [.t 24, .c (.int .i64 (Int.ofNat 2))], (some (22, false))⟩,
      ⟨(some 26), (.pure .pick), [.t 22, .c (.bool true), .t 25], none⟩,
      ⟨(some 18), (.pure .mov), [.t 26], none⟩] false) c79_3)) c79_2)
def c79_0 : C := (.seq (.region [
      ⟨(some 10), (.pure .mov), [.t 0], none⟩,
      ⟨(some 11), (.pure .nilchk), [.t 10], none⟩,
      ⟨(some 12), (.pure (.fadd 9)), [.t 11], none⟩,
      ⟨(some 13), (.read (.load 1 false) []), [.t 12], none⟩,
      ⟨(some 14), (.pure .mov), [.t 1], none⟩,
      ⟨(some 15), (.call 84), [.t 13, .t 14], none⟩,
      ⟨(some 9), (.pure .mov), [.t 15], none⟩,
      ⟨(some 16), (.pure (.extract 0)), [.t 9], none⟩,
      ⟨(some 17), (.pure (.extract 1)), [.t 9], none⟩,
      ⟨(some 5), (.alloc (.alloc [(.int .i64 (Int.ofNat 0)), (.int .i64 (Int.ofNat 0)), (.int .i64 (Int.ofNat 0)), (.int .i64 (Int.ofNat 0)), (.int .i64 (Int.ofNat 0)), (.int .i64 (Int.ofNat 0)), (.int .i64 (Int.ofNat 0)), (.int .i64 (Int.ofNat 0)), (.int .i64 (Int.ofNat 0)), (.string ⟨⟨[]⟩⟩)])), [], none⟩,
      ⟨none, (.eff (.store 10)), [.t 5, .t 16], none⟩,
      ⟨(some 6), (.pure .mov), [.t 17], none⟩] false) c79_1)
def k79 : DFn := ⟨59, (.seq (.region [
      ⟨(some 4), (.pure .mov), [.c (.slice none 0 0)], none⟩] false) c79_0), [.tmp 4]⟩
theorem c79 : (match Tryz.prog.funcs[79]? with | some fn => compileFn Tryz.prog 4 [none, none, some [], none, none, none, some [4], none, none, none, none, some [4], none, some [4]] fn | none => none) = some k79 := by kernel_rfl


/-- tompion/config.Next -/
def c80_7 : C := .ret
def c80_6 : C := (.keep [4, 5] c80_7)
def c80_2 : C := (.seq (.region [
      ⟨(some 13), (.pure .mov), [.t 6], none⟩,
      ⟨(some 14), (.pure (.bin .add)), [.t 13, .c (.int .i64 (Int.ofNat 1))], none⟩,
      ⟨(some 15), (.call 81), [.t 2, .t 14], none⟩,
      ⟨(some 16), (.pure (.extract 0)), [.t 15], none⟩,
      ⟨(some 17), (.pure (.extract 1)), [.t 15], none⟩,
      ⟨none, (.eff (.store 2)), [.t 4, .t 16], none⟩,
      ⟨(some 5), (.pure .mov), [.t 17], none⟩] false) c80_6)
def c80_5 : C := .ret
def c80_4 : C := (.keep [4, 5] c80_5)
def c80_3 : C := (.cond (.t 11) (.seq (.region [
      ⟨(some 12), (.pure (.build [(.int .i64 (Int.ofNat 0)), (.int .i64 (Int.ofNat 0))] [])), [], none⟩,
      ⟨none, (.eff (.store 2)), [.t 4, .t 12], none⟩,
      ⟨(some 5), (.pure .mov), [.c (.bool false)], none⟩] false) c80_4)
    .skip)
def c80_1 : C := (.seq (.seq (.region [
      ⟨(some 10), (.pure .mov), [.t 6], none⟩,
      ⟨(some 11), (.pure (.bin .lss)), [.t 10, .c (.int .i64 (Int.ofNat 0))], none⟩] false) c80_3) c80_2)
def c80_0 : C := (.seq (.region [
      ⟨(some 7), (.read (.load 2 true) []), [.t 2], none⟩,
      ⟨(some 8), (.read (.load 2 true) []), [.t 3], none⟩,
      ⟨(some 9), (.call 22), [.t 7, .t 8], none⟩,
      ⟨(some 6), (.pure .mov), [.t 9], none⟩] false) c80_1)
def k80 : DFn := ⟨18, (.seq (.region [
      ⟨(some 2), (.alloc .box), [.t 0], none⟩,
      ⟨(some 3), (.alloc .box), [.t 1], none⟩,
      ⟨(some 4), (.alloc (.alloc [(.int .i64 (Int.ofNat 0)), (.int .i64 (Int.ofNat 0))])), [], none⟩,
      ⟨(some 5), (.pure .mov), [.c (.bool false)], none⟩] false) c80_0), [.cell 4 2 true, .tmp 5]⟩
theorem c80 : (match Tryz.prog.funcs[80]? with | some fn => compileFn Tryz.prog 4 [none, none, none, none, none, some [4, 5], none, some [4, 5]] fn | none => none) = some k80 := by kernel_rfl


/-- tompion/config.at -/
def c81_6 : C := .ret
def c81_5 : C := (.keep [4, 5] c81_6)
def c81_1 : C := (.seq (.region [
      ⟨(some 18), (.pure .mov), [.t 0], none⟩,
      ⟨(some 19), (.pure .nilchk), [.t 18], none⟩,
      ⟨(some 20), (.pure (.fadd 1)), [.t 19], none⟩,
      ⟨(some 21), (.read (.load 1 false) []), [.t 20], none⟩,
      ⟨(some 22), (.pure .mov), [.t 1], none⟩,
      ⟨(some 23), (.pure (.iaddS 3)), [.t 21, .t 22], none⟩,
      ⟨(some 24), (.pure (.fadd 0)), [.t 23], none⟩,
      ⟨(some 25), (.read (.load 2 true) []), [.t 24], none⟩,
      ⟨none, (.eff (.store 2)), [.t 4, .t 25], none⟩,
      ⟨(some 5), (.pure .mov), [.c (.bool true)], none⟩] false) c81_5)
def c81_4 : C := .ret
def c81_3 : C := (.keep [4, 5] c81_4)
def c81_2 : C := (.cond (.t 16) (.seq (.region [
      ⟨(some 17), (.read (.load 2 true) []), [.t 4], none⟩,
      ⟨none, (.eff (.store 2)), [.t 4, .t 17], none⟩,
      ⟨(some 5), (.pure .mov), [.c (.bool false)], none⟩] false) c81_3)
    .skip)
def c81_0 : C := (.seq (.seq (.region [
      ⟨(some 6), (.pure .mov), [.t 1], none⟩,
      ⟨(some 7), (.pure (.bin .lss)), [.t 6, .c (.int .i64 (Int.ofNat 0))], none⟩,
      ⟨(some 8), (.pure .mov), [.t 7], none⟩,
      ⟨(some 9), (.pure .mov), [.t 1], (some (8, false))⟩,
      ⟨(some 10), (.pure .mov), [.t 0], (some (8, false))⟩,
      ⟨(some 11), (.pure .nilchk), [.t 10], (some (8, false))⟩,
      ⟨(some 12), (.pure (.fadd 1)), [.t 11], (some (8, false))⟩,
      ⟨(some 13), (.read (.load 1 false) []), [.t 12], (some (8, false))⟩,
      ⟨(some 14), (.pure .lenS), [.t 13], (some (8, false))⟩,
      ⟨(some 15), (.pure (.bin .geq)), [.t 9, .t 14], (some (8, false))⟩,
      ⟨(some 16), (.pure .pick), [.t 8, .c (.bool true), .t 15], none⟩] false) c81_2) c81_1)
def k81 : DFn := ⟨26, (.seq (.region [
      ⟨(some 4), (.alloc (.alloc [(.int .i64 (Int.ofNat 0)), (.int .i64 (Int.ofNat 0))])), [], none⟩,
      ⟨(some 5), (.pure .mov), [.c (.bool false)], none⟩] false) c81_0), [.cell 4 2 true, .tmp 5]⟩
theorem c81 : (match Tryz.prog.funcs[81]? with | some fn => compileFn Tryz.prog 4 [none, none, none, none, some [4, 5], none, some [4, 5]] fn | none => none) = some k81 := by kernel_rfl


/-- (*tompion/oplog.Log).Op -/
def c84_3 : C := .ret
def c84_2 : C := (.keep [4, 5] c84_3)
def c84_1 : C := (.seq (.region [
      ⟨(some 14), (.pure (.fadd 0)), [.t 6], none⟩,
      ⟨(some 15), (.read (.load 10 true) []), [.t 14], none⟩,
      ⟨(some 16), (.pure .mov), [.t 7], none⟩,
      ⟨none, (.eff (.store 10)), [.t 4, .t 15], none⟩,
      ⟨(some 5), (.pure .mov), [.t 16], none⟩] false) c84_2)
def c84_0 : C := (.seq (.region [
      ⟨(some 9), (.pure .mov), [.t 0], none⟩,
      ⟨(some 10), (.pure .mov), [.t 1], none⟩,
      ⟨(some 11), (.call 100), [.t 9, .t 10], none⟩,
      ⟨(some 8), (.pure .mov), [.t 11], none⟩,
      ⟨(some 12), (.pure (.extract 0)), [.t 8], none⟩,
      ⟨(some 13), (.pure (.extract 1)), [.t 8], none⟩,
      ⟨(some 6), (.alloc (.alloc [(.int .i64 (Int.ofNat 0)), (.int .i64 (Int.ofNat 0)), (.int .i64 (Int.ofNat 0)), (.int .i64 (Int.ofNat 0)), (.int .i64 (Int.ofNat 0)), (.int .i64 (Int.ofNat 0)), (.int .i64 (Int.ofNat 0)), (.int .i64 (Int.ofNat 0)), (.int .i64 (Int.ofNat 0)), (.string ⟨⟨[]⟩⟩), (.int .i64 (Int.ofNat 0)), (.int .i64 (Int.ofNat 0)), (.int .i64 (Int.ofNat 0)), (.int .i64 (Int.ofNat 0)), (.int .i64 (Int.ofNat 0)), (.int .i64 (Int.ofNat 0)), (.int .i64 (Int.ofNat 0)), (.int .i64 (Int.ofNat 0)), (.int .i64 (Int.ofNat 0))])), [], none⟩,
      ⟨none, (.eff (.store 19)), [.t 6, .t 12], none⟩,
      ⟨(some 7), (.pure .mov), [.t 13], none⟩] false) c84_1)
def k84 : DFn := ⟨17, (.seq (.region [
      ⟨(some 4), (.alloc (.alloc [(.int .i64 (Int.ofNat 0)), (.int .i64 (Int.ofNat 0)), (.int .i64 (Int.ofNat 0)), (.int .i64 (Int.ofNat 0)), (.int .i64 (Int.ofNat 0)), (.int .i64 (Int.ofNat 0)), (.int .i64 (Int.ofNat 0)), (.int .i64 (Int.ofNat 0)), (.int .i64 (Int.ofNat 0)), (.string ⟨⟨[]⟩⟩)])), [], none⟩,
      ⟨(some 5), (.pure .mov), [.c (.int .i64 (Int.ofNat 0))], none⟩] false) c84_0), [.cell 4 10 true, .tmp 5]⟩
theorem c84 : (match Tryz.prog.funcs[84]? with | some fn => compileFn Tryz.prog 4 [none, none, none, some [4, 5]] fn | none => none) = some k84 := by kernel_rfl


end Go.Proofs.YtdpbbppjjjhnoaaGreatDoor.D
