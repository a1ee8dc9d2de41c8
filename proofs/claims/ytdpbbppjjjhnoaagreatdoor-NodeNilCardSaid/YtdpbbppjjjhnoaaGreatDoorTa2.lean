/- The compiled functions of the seat, as the machine "D" runs them, and what each comes to (written by a program). No statement of the seat is proved in this text. -/
import Derived.Test.YtdpbbppjjjhnoaaGreatDoorDz
import Derived.Test.YtdpbbppjjjhnoaaGreatDoorProg
set_option maxRecDepth 100000
set_option linter.unusedVariables false
namespace Go.Proofs.YtdpbbppjjjhnoaaGreatDoor.D
open Go
/-- (*tompion/node.Node).hand -/
def c27_26 : C := .ret
def c27_25 : C := (.keep [2] c27_26)
def c27_24 : C := (.seq (.region [
      ⟨(some 61), (.pure .mov), [.t 2], none⟩,
      ⟨(some 2), (.pure .mov), [.t 61], none⟩] false) c27_25)
def c27_2 : C := (.keep [2] c27_24)
def c27_23 : C := .skip
def c27_5 : C := (.keep [0, 2, 3, 31, 32, 33] c27_23)
def c27_22 : C := (.region [
      ⟨(some 60), (.pure (.bin .add)), [.t 33, .c (.int .i64 (Int.ofNat 1))], none⟩,
      ⟨(some 33), (.pure .mov), [.t 60], none⟩] false)
def c27_9 : C := (.keep [0, 2, 3, 31, 32, 33] c27_22)
def c27_21 : C := .skip
def c27_13 : C := (.keep [0, 2, 3, 5, 31, 32, 33, 42, 43, 44] c27_21)
def c27_17 : C := (.region [
      ⟨(some 59), (.pure (.bin .add)), [.t 44, .c (.int .i64 (Int.ofNat 1))], none⟩,
      ⟨(some 44), (.pure .mov), [.t 59], none⟩] false)
def c27_20 : C := (.region [
      ⟨(some 54), (.pure .mov), [.t 0], none⟩,
      ⟨(some 55), (.pure (.fadd 5)), [.t 7], none⟩,
      ⟨(some 56), (.read (.load 1 false) []), [.t 55], none⟩,
      ⟨(some 57), (.pure .nilchk), [.t 54], none⟩,
      ⟨(some 58), (.pure (.fadd 19)), [.t 57], none⟩,
      ⟨none, (.eff (.store 1)), [.t 58, .t 56], none⟩] false)
def c27_19 : C := (.seq (.region [
      ⟨(some 50), (.pure .mov), [.t 2], none⟩,
      ⟨(some 51), (.read (.load 28 true) []), [.t 7], none⟩,
      ⟨(some 52), (.alloc (.bslice [(.int .i64 (Int.ofNat 0)), (.int .i64 (Int.ofNat 0)), (.int .i64 (Int.ofNat 0)), (.int .i64 (Int.ofNat 0)), (.int .i64 (Int.ofNat 0)), (.int .i64 (Int.ofNat 0)), (.int .i64 (Int.ofNat 0)), (.int .i64 (Int.ofNat 0)), (.int .i64 (Int.ofNat 0)), (.int .i64 (Int.ofNat 0)), (.bool false), (.int .i64 (Int.ofNat 0)), (.int .i64 (Int.ofNat 0)), (.int .i64 (Int.ofNat 0)), (.int .i64 (Int.ofNat 0)), (.int .i64 (Int.ofNat 0)), (.int .i64 (Int.ofNat 0)), (.int .i64 (Int.ofNat 0)), (.int .i64 (Int.ofNat 0)), (.int .i64 (Int.ofNat 0)), (.string ⟨⟨[]⟩⟩), (.int .i64 (Int.ofNat 0)), (.int .i64 (Int.ofNat 0)), (.int .i64 (Int.ofNat 0)), (.int .i64 (Int.ofNat 0)), (.slice none 0 0), (.slice none 0 0), (.int .i64 (Int.ofNat 0))] [(0, 28)] 28 1)), [.t 51], none⟩,
      ⟨(some 53), (.eff (.app 28 264)), [.t 50, .t 52], none⟩,
      ⟨(some 2), (.pure .mov), [.t 53], none⟩] false) c27_20)
def c27_18 : C := (.seq (.region [
      ⟨(some 48), (.read (.load 10 true) []), [.t 5], none⟩,
      ⟨(some 49), (.pure (.fadd 11)), [.t 7], none⟩,
      ⟨none, (.eff (.store 10)), [.t 49, .t 48], none⟩] false) c27_19)
def c27_15 : C := (.seq (.block 3 (.seq (.region [
      ⟨(some 46), (.pure (.iaddS 28)), [.t 42, .t 44], none⟩,
      ⟨(some 47), (.read (.load 28 true) []), [.t 46], none⟩,
      ⟨(some 7), (.alloc (.alloc [(.int .i64 (Int.ofNat 0)), (.int .i64 (Int.ofNat 0)), (.int .i64 (Int.ofNat 0)), (.int .i64 (Int.ofNat 0)), (.int .i64 (Int.ofNat 0)), (.int .i64 (Int.ofNat 0)), (.int .i64 (Int.ofNat 0)), (.int .i64 (Int.ofNat 0)), (.int .i64 (Int.ofNat 0)), (.int .i64 (Int.ofNat 0)), (.bool false), (.int .i64 (Int.ofNat 0)), (.int .i64 (Int.ofNat 0)), (.int .i64 (Int.ofNat 0)), (.int .i64 (Int.ofNat 0)), (.int .i64 (Int.ofNat 0)), (.int .i64 (Int.ofNat 0)), (.int .i64 (Int.ofNat 0)), (.int .i64 (Int.ofNat 0)), (.int .i64 (Int.ofNat 0)), (.string ⟨⟨[]⟩⟩), (.int .i64 (Int.ofNat 0)), (.int .i64 (Int.ofNat 0)), (.int .i64 (Int.ofNat 0)), (.int .i64 (Int.ofNat 0)), (.slice none 0 0), (.slice none 0 0), (.int .i64 (Int.ofNat 0))])), [], none⟩,
      ⟨none, (.eff (.store 28)), [.t 7, .t 47], none⟩] false) c27_18)) c27_17)
def c27_16 : C := (.exit 2)
def c27_14 : C := (.seq (.cond (.t 45) .skip
    (.keep [0, 2, 3, 31, 32, 33] c27_16)) c27_15)
def c27_12 : C := (.seq (.seq (.region [
      ⟨(some 45), (.pure (.bin .lss)), [.t 44, .t 43], none⟩] false) c27_14) c27_13)
def c27_11 : C := (.block 2 (.loop (some [0, 2, 3, 5, 31, 32, 33, 42, 43, 44]) c27_12))
def c27_10 : C := (.seq (.region [
      ⟨(some 38), (.pure .mov), [.t 0], none⟩,
      ⟨(some 39), (.pure .mov), [.t 3], none⟩,
      ⟨(some 40), (.pure .mov), [.t 4], none⟩,
      ⟨(some 41), (.pure (.bin .add)), [.t 39, .t 40], none⟩,
      ⟨(some 42), (.call 51), [.t 38, .c (.int .i64 (Int.ofNat 5)), .t 41], none⟩,
      ⟨(some 43), (.pure .lenS), [.t 42], none⟩,
      ⟨(some 44), (.pure .mov), [.c (.int .i64 (Int.ofNat 0))], none⟩] false) c27_11)
def c27_7 : C := (.seq (.block 1 (.seq (.region [
      ⟨(some 35), (.pure .mov), [.t 33], none⟩,
      ⟨(some 36), (.pure (.iaddS 10)), [.t 31, .t 33], none⟩,
      ⟨(some 37), (.read (.load 10 true) []), [.t 36], none⟩,
      ⟨(some 5), (.alloc (.alloc [(.int .i64 (Int.ofNat 0)), (.int .i64 (Int.ofNat 0)), (.int .i64 (Int.ofNat 0)), (.int .i64 (Int.ofNat 0)), (.int .i64 (Int.ofNat 0)), (.int .i64 (Int.ofNat 0)), (.int .i64 (Int.ofNat 0)), (.int .i64 (Int.ofNat 0)), (.int .i64 (Int.ofNat 0)), (.string ⟨⟨[]⟩⟩)])), [], none⟩,
      ⟨(some 4), (.pure .mov), [.t 35], none⟩,
      ⟨none, (.eff (.store 10)), [.t 5, .t 37], none⟩] false) c27_10)) c27_9)
def c27_8 : C := (.exit 0)
def c27_6 : C := (.seq (.cond (.t 34) .skip
    (.keep [2] c27_8)) c27_7)
def c27_4 : C := (.seq (.seq (.region [
      ⟨(some 34), (.pure (.bin .lss)), [.t 33, .t 32], none⟩] false) c27_6) c27_5)
def c27_3 : C := (.block 0 (.loop (some [0, 2, 3, 31, 32, 33]) c27_4))
def c27_1 : C := (.seq (.seq (.region [
      ⟨(some 18), (.pure .mov), [.t 0], none⟩,
      ⟨(some 19), (.pure .nilchk), [.t 18], none⟩,
      ⟨(some 20), (.pure (.fadd 9)), [.t 19], none⟩,
      ⟨(some 21), (.read (.load 1 false) []), [.t 20], none⟩,
      ⟨(some 22), (.pure .mov), [.t 3], none⟩,
      ⟨(some 23), (.pure .mov), [.t 0], none⟩,
      ⟨(some 24), (.pure .nilchk), [.t 23], none⟩,
      ⟨(some 25), (.pure (.fadd 18)), [.t 24], none⟩,
      ⟨(some 26), (.read (.load 1 false) []), [.t 25], none⟩,
      ⟨(some 27), (.pure (.bin .add)), [.t 26, .c (.int .i64 (Int.ofNat 8))], none⟩,
      ⟨(some 28), (.pure (.bin .add)), [.t 27, .c (.int .i64 (Int.ofNat 1))], none⟩,
      ⟨(some 29), (.pure .mov), [.t 3], none⟩,
      ⟨(some 30), (.pure (.bin .sub)), [.t 28, .t 29], none⟩,
      ⟨(some 31), (.call 40), [.t 21, .t 22, .t 30], none⟩,
      ⟨(some 32), (.pure .lenS), [.t 31], none⟩,
      ⟨(some 33), (.pure .mov), [.c (.int .i64 (Int.ofNat 0))], none⟩] false) c27_3) c27_2)
def c27_0 : C := (.seq (.region [
      ⟨(some 8), (.pure .mov), [.t 0], none⟩,
      ⟨(some 9), (.pure .nilchk), [.t 8], none⟩,
      ⟨(some 10), (.pure (.fadd 18)), [.t 9], none⟩,
      ⟨(some 11), (.read (.load 1 false) []), [.t 10], none⟩,
      ⟨(some 12), (.pure .mov), [.t 0], none⟩,
      ⟨(some 13), (.pure .nilchk), [.t 12], none⟩,
      ⟨(some 14), (.pure (.fadd 19)), [.t 13], none⟩,
      ⟨(some 15), (.read (.load 1 false) []), [.t 14], none⟩,
      ⟨(some 16), (.pure .max), [.t 11, .t 15], none⟩,
      ⟨(some 17), (.pure (.bin .add)), [.t 16, .c (.int .i64 (Int.ofNat 1))], none⟩,
      ⟨(some 3), (.pure .mov), [.t 17], none⟩] false) c27_1)
def k27 : DFn := ⟨62, (.seq (.region [
      ⟨(some 2), (.pure .mov), [.c (.slice none 0 0)], none⟩] false) c27_0), [.tmp 2]⟩
theorem c27 : (match Tryz.prog.funcs[27]? with | some fn => compileFn Tryz.prog 4 [none, none, some [2], none, some [0, 2, 3, 31, 32, 33], none, none, some [2], some [0, 2, 3, 31, 32, 33], none, none, some [0, 2, 3, 5, 31, 32, 33, 42, 43, 44], none, none, some [0, 2, 3, 31, 32, 33], none, none, none, none, none, some [2]] fn | none => none) = some k27 := by kernel_rfl


/-- (*tompion/node.Node).ahead -/
def c28_7 : C := .ret
def c28_6 : C := (.keep [6] c28_7)
def c28_1 : C := (.seq (.region [
      ⟨(some 6), (.pure .mov), [.c (.slice none 0 0)], none⟩] false) c28_6)
def c28_5 : C := .ret
def c28_4 : C := (.keep [6] c28_5)
def c28_3 : C := (.cond (.t 21) (.seq (.region [
      ⟨(some 22), (.pure .mov), [.t 0], none⟩,
      ⟨(some 23), (.read (.load 2 true) []), [.t 7], none⟩,
      ⟨(some 24), (.pure .mov), [.t 1], none⟩,
      ⟨(some 25), (.pure .mov), [.t 2], none⟩,
      ⟨(some 26), (.call 54), [.t 22, .t 23, .t 24, .t 25], none⟩,
      ⟨(some 27), (.alloc (.bslice [(.int .i64 (Int.ofNat 0)), (.int .i64 (Int.ofNat 0)), (.int .i64 (Int.ofNat 0)), (.int .i64 (Int.ofNat 0)), (.int .i64 (Int.ofNat 0)), (.int .i64 (Int.ofNat 0)), (.int .i64 (Int.ofNat 0)), (.int .i64 (Int.ofNat 0)), (.int .i64 (Int.ofNat 0)), (.int .i64 (Int.ofNat 0)), (.bool false), (.int .i64 (Int.ofNat 0)), (.int .i64 (Int.ofNat 0)), (.int .i64 (Int.ofNat 0)), (.int .i64 (Int.ofNat 0)), (.int .i64 (Int.ofNat 0)), (.int .i64 (Int.ofNat 0)), (.int .i64 (Int.ofNat 0)), (.int .i64 (Int.ofNat 0)), (.int .i64 (Int.ofNat 0)), (.string ⟨⟨[]⟩⟩), (.int .i64 (Int.ofNat 0)), (.int .i64 (Int.ofNat 0)), (.int .i64 (Int.ofNat 0)), (.int .i64 (Int.ofNat 0)), (.slice none 0 0), (.slice none 0 0), (.int .i64 (Int.ofNat 0))] [(0, 28)] 28 1)), [.t 26], none⟩,
      ⟨(some 6), (.pure .mov), [.t 27], none⟩] false) c28_4)
    .skip)
def c28_2 : C := (.seq (.region [
      ⟨(some 21), (.pure .mov), [.t 8], none⟩] false) c28_3)
def c28_0 : C := (.seq (.seq (.region [
      ⟨(some 10), (.pure .mov), [.t 0], none⟩,
      ⟨(some 11), (.pure .nilchk), [.t 10], none⟩,
      ⟨(some 12), (.pure (.fadd 10)), [.t 11], none⟩,
      ⟨(some 13), (.read (.load 2 true) []), [.t 12], none⟩,
      ⟨(some 14), (.pure .mov), [.t 0], none⟩,
      ⟨(some 15), (.pure .nilchk), [.t 14], none⟩,
      ⟨(some 16), (.pure (.fadd 7)), [.t 15], none⟩,
      ⟨(some 17), (.read (.load 2 true) []), [.t 16], none⟩,
      ⟨(some 18), (.call 53), [.t 13, .t 17], none⟩,
      ⟨(some 9), (.pure .mov), [.t 18], none⟩,
      ⟨(some 19), (.pure (.extract 0)), [.t 9], none⟩,
      ⟨(some 20), (.pure (.extract 1)), [.t 9], none⟩,
      ⟨(some 7), (.alloc (.alloc [(.int .i64 (Int.ofNat 0)), (.int .i64 (Int.ofNat 0))])), [], none⟩,
      ⟨none, (.eff (.store 2)), [.t 7, .t 19], none⟩,
      ⟨(some 8), (.pure .mov), [.t 20], none⟩] false) c28_2) c28_1)
def k28 : DFn := ⟨28, (.seq (.region [
      ⟨(some 6), (.pure .mov), [.c (.slice none 0 0)], none⟩] false) c28_0), [.tmp 6]⟩
theorem c28 : (match Tryz.prog.funcs[28]? with | some fn => compileFn Tryz.prog 4 [none, none, none, none, none, some [6], none, some [6]] fn | none => none) = some k28 := by kernel_rfl


/-- (*tompion/node.Node).asks -/
def c36_18 : C := .ret
def c36_17 : C := (.keep [6] c36_18)
def c36_16 : C := (.seq (.region [
      ⟨(some 83), (.pure .mov), [.t 10], none⟩,
      ⟨(some 6), (.pure .mov), [.t 83], none⟩] false) c36_17)
def c36_15 : C := (.seq (.region [
      ⟨(some 78), (.pure .mov), [.t 0], none⟩,
      ⟨(some 79), (.read (.load 10 true) []), [.t 7], none⟩,
      ⟨(some 80), (.call 58), [.t 78, .t 79], none⟩,
      ⟨(some 77), (.pure .mov), [.t 80], none⟩,
      ⟨(some 81), (.pure (.extract 0)), [.t 77], none⟩,
      ⟨(some 82), (.pure (.extract 1)), [.t 77], none⟩,
      ⟨(some 10), (.pure .mov), [.t 81], none⟩,
      ⟨(some 11), (.pure .mov), [.t 82], none⟩] false) c36_16)
def c36_6 : C := (.seq (.region [
      ⟨(some 67), (.pure .mov), [.t 2], none⟩,
      ⟨(some 68), (.pure .mov), [.t 0], none⟩,
      ⟨(some 69), (.pure .nilchk), [.t 68], none⟩,
      ⟨(some 70), (.pure (.fadd 10)), [.t 69], none⟩,
      ⟨(some 71), (.pure (.fadd 0)), [.t 70], none⟩,
      ⟨(some 72), (.read (.load 1 false) [8, 10, 12]), [.t 71], none⟩,
      ⟨(some 73), (.pure (.fadd 4)), [.t 7], none⟩,
      ⟨none, (.eff (.store 1)), [.t 73, .c (.int .i64 (Int.ofNat 0))], none⟩,
      ⟨(some 74), (.pure (.fadd 5)), [.t 7], none⟩,
      ⟨none, (.eff (.store 1)), [.t 74, .c (.int .i64 (Int.ofNat 0))], none⟩,
      ⟨(some 75), (.pure (.fadd 7)), [.t 7], none⟩,
      ⟨none, (.eff (.store 1)), [.t 75, .t 67], none⟩,
      ⟨(some 76), (.pure (.fadd 8)), [.t 7], none⟩,
      ⟨none, (.eff (.store 1)), [.t 76, .t 72], none⟩] true) c36_15)
def c36_14 : C := .ret
def c36_13 : C := (.keep [6] c36_14)
def c36_9 : C := (.seq (.region [
      ⟨(some 6), (.pure .mov), [.c (.slice none 0 0)], none⟩] false) c36_13)
def c36_12 : C := .ret
def c36_11 : C := (.keep [6] c36_12)
def c36_10 : C := (.cond (.t 62) (.seq (.region [
      ⟨(some 63), (.pure .mov), [.t 0], none⟩,
      ⟨(some 64), (.pure .mov), [.t 8], none⟩,
      ⟨(some 65), (.call 69), [.t 63, .t 64], none⟩,
      ⟨(some 66), (.alloc (.bslice [(.int .i64 (Int.ofNat 0)), (.int .i64 (Int.ofNat 0)), (.int .i64 (Int.ofNat 0)), (.int .i64 (Int.ofNat 0)), (.int .i64 (Int.ofNat 0)), (.int .i64 (Int.ofNat 0)), (.int .i64 (Int.ofNat 0)), (.int .i64 (Int.ofNat 0)), (.int .i64 (Int.ofNat 0)), (.int .i64 (Int.ofNat 0)), (.bool false), (.int .i64 (Int.ofNat 0)), (.int .i64 (Int.ofNat 0)), (.int .i64 (Int.ofNat 0)), (.int .i64 (Int.ofNat 0)), (.int .i64 (Int.ofNat 0)), (.int .i64 (Int.ofNat 0)), (.int .i64 (Int.ofNat 0)), (.int .i64 (Int.ofNat 0)), (.int .i64 (Int.ofNat 0)), (.string ⟨⟨[]⟩⟩), (.int .i64 (Int.ofNat 0)), (.int .i64 (Int.ofNat 0)), (.int .i64 (Int.ofNat 0)), (.int .i64 (Int.ofNat 0)), (.slice none 0 0), (.slice none 0 0), (.int .i64 (Int.ofNat 0))] [(0, 28)] 28 1)), [.t 65], none⟩,
      ⟨(some 6), (.pure .mov), [.t 66], none⟩] false) c36_11)
    .skip)
def c36_8 : C := (.cond (.t 56) (.seq (.seq (.region [
      ⟨(some 57), (.pure .mov), [.t 8], none⟩,
      ⟨(some 58), (.pure .mov), [.t 0], none⟩,
      ⟨(some 59), (.pure .nilchk), [.t 58], none⟩,
      ⟨(some 60), (.pure (.fadd 17)), [.t 59], none⟩,
      ⟨(some 61), (.read (.load 1 false) []), [.t 60], none⟩,
      ⟨(some 62), (.pure (.bin .leq)), [.t 57, .t 61], none⟩] false) c36_10) c36_9)
    .skip)
def c36_7 : C := (.seq (.region [
      ⟨(some 56), (.pure .mov), [.t 9], none⟩] false) c36_8)
def c36_2 : C := (.seq (.seq (.region [
      ⟨(some 45), (.pure .mov), [.t 0], none⟩,
      ⟨(some 46), (.pure .nilchk), [.t 45], none⟩,
      ⟨(some 47), (.pure (.fadd 9)), [.t 46], none⟩,
      ⟨(some 48), (.read (.load 1 false) []), [.t 47], none⟩,
      ⟨(some 49), (.pure (.fadd 1)), [.t 7], none⟩,
      ⟨(some 50), (.read (.load 1 false) []), [.t 49], none⟩,
      ⟨(some 51), (.pure (.fadd 2)), [.t 7], none⟩,
      ⟨(some 52), (.read (.load 1 false) []), [.t 51], none⟩,
      ⟨(some 53), (.call 68), [.t 48, .t 50, .t 52], none⟩,
      ⟨(some 44), (.pure .mov), [.t 53], none⟩,
      ⟨(some 54), (.pure (.extract 0)), [.t 44], none⟩,
      ⟨(some 55), (.pure (.extract 1)), [.t 44], none⟩,
      ⟨(some 8), (.pure .mov), [.t 54], none⟩,
      ⟨(some 9), (.pure .mov), [.t 55], none⟩] false) c36_7) c36_6)
def c36_5 : C := .ret
def c36_4 : C := (.keep [6] c36_5)
def c36_3 : C := (.cond (.t 43) (.seq (.region [
      ⟨(some 6), (.pure .mov), [.c (.slice none 0 0)], none⟩] false) c36_4)
    .skip)
def c36_1 : C := (.seq (.seq (.region [
      ⟨(some 16), (.pure .mov), [.t 0], none⟩,
      ⟨(some 17), (.call 47), [.t 16], none⟩,
      ⟨(some 18), (.pure (.un .not)), [.t 17], none⟩,
      ⟨(some 19), (.pure .mov), [.t 18], none⟩,
      ⟨(some 20), (.pure .mov), [.t 1], (some (19, false))⟩,
      ⟨(some 21), (.call 67), [.t 20], (some (19, false))⟩,
      ⟨(some 22), (.pure (.un .not)), [.t 21], (some (19, false))⟩,
      ⟨(some 23), (.pure .pick), [.t 19, .c (.bool true), .t 22], none⟩,
      ⟨(some 24), (.pure .mov), [.t 23], none⟩,
      ⟨(some 25), (.pure (.fadd 1)), [.t 7], (some (24, false))⟩,
      ⟨(some 26), (.read (.load 1 false) []), [.t 25], (some (24, false))⟩,
      ⟨(some 27), (.pure .mov), [.t 1], (some (24, false))⟩,
      ⟨(some 28), (.pure .nilchk), [.t 27], (some (24, false))⟩,
      ⟨(some 29), (.pure (.fadd 2)), [.t 28], (some (24, false))⟩,
      ⟨(some 30), (.pure (.fadd 0)), [.t 29], (some (24, false))⟩,
      ⟨(some 31), (.read (.load 1 false) []), [.t 30], (some (24, false))⟩,
      ⟨(some 32), (.pure (.bin .neq)), [.t 26, .t 31], (some (24, false))⟩,
      ⟨(some 33), (.pure .pick), [.t 24, .c (.bool true), .t 32], none⟩,
      ⟨(some 34), (.pure .mov), [.t 33], none⟩,
      ⟨(some 35), (.pure (.fadd 0)), [.t 7], (some (34, false))⟩,
      ⟨(some 36), (.read (.load 1 false) []), [.t 35], (some (34, false))⟩,
      ⟨(some 37), (.pure (.bin .neq)), [.t 36, .c (.int .i64 (Int.ofNat 1))], (some (34, false))⟩,
      ⟨(some 38), (.pure .mov), [.t 37], (some (34, false))⟩,
      ⟨(some 39), (.pure (.fadd 0)), [.t 7], (some (38, true))⟩,
      ⟨(some 40), (.read (.load 1 false) []), [.t 39], (some (38, true))⟩,
      ⟨(some 41), (.pure (.bin .neq)), [.t 40, .c (.int .i64 (Int.ofNat 2))], (some (38, true))⟩,
      ⟨(some 42), (.pure .pick), [.t 38, .t 41, .c (.bool false)], (some (34, false))⟩,
      ⟨(some 43), (.pure .pick), [.t 34, .c (.bool true), .t 42], none⟩] false) c36_3) c36_2)
def c36_0 : C := (.seq (.region [
      ⟨(some 12), (.pure .mov), [.t 1], none⟩,
      ⟨(some 13), (.pure .nilchk), [.t 12], none⟩,
      ⟨(some 14), (.pure (.fadd 11)), [.t 13], none⟩,
      ⟨(some 15), (.read (.load 10 true) []), [.t 14], none⟩,
      ⟨(some 7), (.alloc (.alloc [(.int .i64 (Int.ofNat 0)), (.int .i64 (Int.ofNat 0)), (.int .i64 (Int.ofNat 0)), (.int .i64 (Int.ofNat 0)), (.int .i64 (Int.ofNat 0)), (.int .i64 (Int.ofNat 0)), (.int .i64 (Int.ofNat 0)), (.int .i64 (Int.ofNat 0)), (.int .i64 (Int.ofNat 0)), (.string ⟨⟨[]⟩⟩)])), [], none⟩,
      ⟨none, (.eff (.store 10)), [.t 7, .t 15], none⟩] false) c36_1)
def k36 : DFn := ⟨84, (.seq (.region [
      ⟨(some 6), (.pure .mov), [.c (.slice none 0 0)], none⟩] false) c36_0), [.tmp 6]⟩
theorem c36 : (match Tryz.prog.funcs[36]? with | some fn => compileFn Tryz.prog 4 [none, none, none, none, none, some [6], none, none, none, none, none, none, some [6], none, some [6], none, none, none, some [6]] fn | none => none) = some k36 := by kernel_rfl


/-- (*tompion/node.Node).reading -/
def c37_19 : C := .ret
def c37_18 : C := (.keep [6] c37_19)
def c37_17 : C := (.seq (.region [
      ⟨(some 107), (.read (.load 28 true) []), [.t 10], none⟩,
      ⟨(some 108), (.alloc (.bslice [(.int .i64 (Int.ofNat 0)), (.int .i64 (Int.ofNat 0)), (.int .i64 (Int.ofNat 0)), (.int .i64 (Int.ofNat 0)), (.int .i64 (Int.ofNat 0)), (.int .i64 (Int.ofNat 0)), (.int .i64 (Int.ofNat 0)), (.int .i64 (Int.ofNat 0)), (.int .i64 (Int.ofNat 0)), (.int .i64 (Int.ofNat 0)), (.bool false), (.int .i64 (Int.ofNat 0)), (.int .i64 (Int.ofNat 0)), (.int .i64 (Int.ofNat 0)), (.int .i64 (Int.ofNat 0)), (.int .i64 (Int.ofNat 0)), (.int .i64 (Int.ofNat 0)), (.int .i64 (Int.ofNat 0)), (.int .i64 (Int.ofNat 0)), (.int .i64 (Int.ofNat 0)), (.string ⟨⟨[]⟩⟩), (.int .i64 (Int.ofNat 0)), (.int .i64 (Int.ofNat 0)), (.int .i64 (Int.ofNat 0)), (.int .i64 (Int.ofNat 0)), (.slice none 0 0), (.slice none 0 0), (.int .i64 (Int.ofNat 0))] [(0, 28)] 28 1)), [.t 107], none⟩,
      ⟨(some 6), (.pure .mov), [.t 108], none⟩] false) c37_18)
def c37_16 : C := (.seq (.region [
      ⟨(some 98), (.pure (.fadd 0)), [.t 7], none⟩,
      ⟨(some 99), (.read (.load 1 false) []), [.t 98], none⟩,
      ⟨(some 100), (.pure (.fadd 1)), [.t 7], none⟩,
      ⟨(some 101), (.read (.load 1 false) [8]), [.t 100], none⟩,
      ⟨(some 102), (.pure (.fadd 2)), [.t 7], none⟩,
      ⟨(some 103), (.read (.load 1 false) [8, 10]), [.t 102], none⟩,
      ⟨(some 104), (.pure (.fadd 7)), [.t 10], none⟩,
      ⟨none, (.eff (.store 1)), [.t 104, .t 99], none⟩,
      ⟨(some 105), (.pure (.fadd 6)), [.t 10], none⟩,
      ⟨none, (.eff (.store 1)), [.t 105, .t 101], none⟩,
      ⟨(some 106), (.pure (.fadd 8)), [.t 10], none⟩,
      ⟨none, (.eff (.store 1)), [.t 106, .t 103], none⟩] true) c37_17)
def c37_15 : C := (.seq (.region [
      ⟨(some 95), (.pure .mov), [.t 0], none⟩,
      ⟨(some 96), (.read (.load 2 true) []), [.t 8], none⟩,
      ⟨(some 97), (.call 54), [.t 95, .t 96, .c (.int .i64 (Int.ofNat 11)), .c (.int .i64 (Int.ofNat 0))], none⟩,
      ⟨(some 10), (.alloc (.alloc [(.int .i64 (Int.ofNat 0)), (.int .i64 (Int.ofNat 0)), (.int .i64 (Int.ofNat 0)), (.int .i64 (Int.ofNat 0)), (.int .i64 (Int.ofNat 0)), (.int .i64 (Int.ofNat 0)), (.int .i64 (Int.ofNat 0)), (.int .i64 (Int.ofNat 0)), (.int .i64 (Int.ofNat 0)), (.int .i64 (Int.ofNat 0)), (.bool false), (.int .i64 (Int.ofNat 0)), (.int .i64 (Int.ofNat 0)), (.int .i64 (Int.ofNat 0)), (.int .i64 (Int.ofNat 0)), (.int .i64 (Int.ofNat 0)), (.int .i64 (Int.ofNat 0)), (.int .i64 (Int.ofNat 0)), (.int .i64 (Int.ofNat 0)), (.int .i64 (Int.ofNat 0)), (.string ⟨⟨[]⟩⟩), (.int .i64 (Int.ofNat 0)), (.int .i64 (Int.ofNat 0)), (.int .i64 (Int.ofNat 0)), (.int .i64 (Int.ofNat 0)), (.slice none 0 0), (.slice none 0 0), (.int .i64 (Int.ofNat 0))])), [], none⟩,
      ⟨none, (.eff (.store 28)), [.t 10, .t 97], none⟩] false) c37_16)
def c37_11 : C := (.seq (.region [
      ⟨(some 85), (.pure .mov), [.t 0], none⟩,
      ⟨(some 86), (.pure .mov), [.t 0], none⟩,
      ⟨(some 87), (.pure .nilchk), [.t 86], none⟩,
      ⟨(some 88), (.pure (.fadd 21)), [.t 87], none⟩,
      ⟨(some 89), (.read (.load 1 false) []), [.t 88], none⟩,
      ⟨(some 90), (.read (.load 3 true) []), [.t 7], none⟩,
      ⟨(some 91), (.alloc (.bslice [(.int .i64 (Int.ofNat 0)), (.int .i64 (Int.ofNat 0)), (.int .i64 (Int.ofNat 0))] [(0, 3)] 3 1)), [.t 90], none⟩,
      ⟨(some 92), (.eff (.app 3 24)), [.t 89, .t 91], none⟩,
      ⟨(some 93), (.pure .nilchk), [.t 85], none⟩,
      ⟨(some 94), (.pure (.fadd 21)), [.t 93], none⟩,
      ⟨none, (.eff (.store 1)), [.t 94, .t 92], none⟩] false) c37_15)
def c37_14 : C := .ret
def c37_13 : C := (.keep [6] c37_14)
def c37_12 : C := (.cond (.t 84) (.seq (.region [
      ⟨(some 6), (.pure .mov), [.c (.slice none 0 0)], none⟩] false) c37_13)
    .skip)
def c37_10 : C := (.seq (.seq (.region [
      ⟨(some 79), (.pure .mov), [.t 0], none⟩,
      ⟨(some 80), (.pure .nilchk), [.t 79], none⟩,
      ⟨(some 81), (.pure (.fadd 21)), [.t 80], none⟩,
      ⟨(some 82), (.read (.load 1 false) []), [.t 81], none⟩,
      ⟨(some 83), (.pure .lenS), [.t 82], none⟩,
      ⟨(some 84), (.pure (.bin .geq)), [.t 83, .c (.int .i64 (Int.ofNat 8))], none⟩] false) c37_12) c37_11)
def c37_6 : C := (.seq (.region [
      ⟨(some 72), (.pure .mov), [.t 0], none⟩,
      ⟨(some 73), (.pure .nilchk), [.t 72], none⟩,
      ⟨(some 74), (.pure (.fadd 10)), [.t 73], none⟩,
      ⟨(some 75), (.read (.load 2 true) []), [.t 74], none⟩,
      ⟨(some 76), (.call 61), [.t 75], none⟩,
      ⟨(some 71), (.pure .mov), [.t 76], none⟩,
      ⟨(some 77), (.pure (.extract 0)), [.t 71], none⟩,
      ⟨(some 78), (.pure (.extract 1)), [.t 71], none⟩,
      ⟨(some 8), (.alloc (.alloc [(.int .i64 (Int.ofNat 0)), (.int .i64 (Int.ofNat 0))])), [], none⟩,
      ⟨none, (.eff (.store 2)), [.t 8, .t 77], none⟩,
      ⟨(some 9), (.pure .mov), [.t 78], none⟩] false) c37_10)
def c37_9 : C := .ret
def c37_8 : C := (.keep [6] c37_9)
def c37_7 : C := (.cond (.t 63) (.seq (.region [
      ⟨(some 64), (.pure .mov), [.t 0], none⟩,
      ⟨(some 65), (.read (.load 3 true) []), [.t 7], none⟩,
      ⟨(some 66), (.pure .mov), [.t 0], none⟩,
      ⟨(some 67), (.pure .nilchk), [.t 66], none⟩,
      ⟨(some 68), (.pure (.fadd 17)), [.t 67], none⟩,
      ⟨(some 69), (.read (.load 1 false) []), [.t 68], none⟩,
      ⟨(some 70), (.call 65), [.t 64, .t 65, .t 69], none⟩,
      ⟨(some 6), (.pure .mov), [.t 70], none⟩] false) c37_8)
    .skip)
def c37_5 : C := (.seq (.seq (.region [
      ⟨(some 46), (.pure .mov), [.t 0], none⟩,
      ⟨(some 47), (.call 59), [.t 46], none⟩,
      ⟨(some 48), (.pure .mov), [.t 47], none⟩,
      ⟨(some 49), (.pure .mov), [.t 0], (some (48, false))⟩,
      ⟨(some 50), (.pure .nilchk), [.t 49], (some (48, false))⟩,
      ⟨(some 51), (.pure (.fadd 9)), [.t 50], (some (48, false))⟩,
      ⟨(some 52), (.read (.load 1 false) []), [.t 51], (some (48, false))⟩,
      ⟨(some 53), (.pure .mov), [.t 1], (some (48, false))⟩,
      ⟨(some 54), (.pure .nilchk), [.t 53], (some (48, false))⟩,
      ⟨(some 55), (.pure (.fadd 8)), [.t 54], (some (48, false))⟩,
      ⟨(some 56), (.read (.load 1 false) []), [.t 55], (some (48, false))⟩,
      ⟨(some 57), (.call 70), [.t 52, .t 56], (some (48, false))⟩,
      ⟨(some 58), (.pure .mov), [.t 0], (some (48, false))⟩,
      ⟨(some 59), (.pure .nilchk), [.t 58], (some (48, false))⟩,
      ⟨(some 60), (.pure (.fadd 17)), [.t 59], (some (48, false))⟩,
      ⟨(some 61), (.read (.load 1 false) [11]), [.t 60], (some (48, false))⟩,
      ⟨(some 62), (.pure (.bin .leq)), [.t 57, .t 61], (some (48, false))⟩,
      ⟨(some 63), (.pure .pick), [.t 48, .c (.bool true), .t 62], none⟩] true) c37_7) c37_6)
def c37_1 : C := (.seq (.region [
      ⟨(some 32), (.pure .mov), [.t 1], none⟩,
      ⟨(some 33), (.pure .nilchk), [.t 32], none⟩,
      ⟨(some 34), (.pure (.fadd 2)), [.t 33], none⟩,
      ⟨(some 35), (.pure (.fadd 0)), [.t 34], none⟩,
      ⟨(some 36), (.read (.load 1 false) []), [.t 35], none⟩,
      ⟨(some 37), (.pure .mov), [.t 1], none⟩,
      ⟨(some 38), (.pure .nilchk), [.t 37], none⟩,
      ⟨(some 39), (.pure (.fadd 6)), [.t 38], none⟩,
      ⟨(some 40), (.read (.load 1 false) []), [.t 39], none⟩,
      ⟨(some 41), (.pure .mov), [.t 1], none⟩,
      ⟨(some 42), (.pure .nilchk), [.t 41], none⟩,
      ⟨(some 43), (.pure (.fadd 8)), [.t 42], none⟩,
      ⟨(some 44), (.read (.load 1 false) []), [.t 43], none⟩,
      ⟨(some 45), (.pure (.build [(.int .i64 (Int.ofNat 0)), (.int .i64 (Int.ofNat 0)), (.int .i64 (Int.ofNat 0))] [(0, 1), (1, 1), (2, 1)])), [.t 36, .t 40, .t 44], none⟩,
      ⟨(some 7), (.alloc (.alloc [(.int .i64 (Int.ofNat 0)), (.int .i64 (Int.ofNat 0)), (.int .i64 (Int.ofNat 0))])), [], none⟩,
      ⟨none, (.eff (.store 3)), [.t 7, .t 45], none⟩] false) c37_5)
def c37_4 : C := .ret
def c37_3 : C := (.keep [6] c37_4)
def c37_2 : C := (.cond (.t 31) (.seq (.region [
      ⟨(some 6), (.pure .mov), [.c (.slice none 0 0)], none⟩] false) c37_3)
    .skip)
def c37_0 : C := (.seq (.seq (.region [
      ⟨(some 11), (.pure .mov), [.t 1], none⟩,
      ⟨(some 12), (.call 67), [.t 11], none⟩,
      ⟨(some 13), (.pure (.un .not)), [.t 12], none⟩,
      ⟨(some 14), (.pure .mov), [.t 13], none⟩,
      ⟨(some 15), (.pure .mov), [.t 0], (some (14, false))⟩,
      ⟨(some 16), (.call 24), [.t 15], (some (14, false))⟩,
      ⟨(some 17), (.pure (.un .not)), [.t 16], (some (14, false))⟩,
      ⟨(some 18), (.pure .pick), [.t 14, .c (.bool true), .t 17], none⟩,
      ⟨(some 19), (.pure .mov), [.t 18], none⟩,
      ⟨(some 20), (.pure .mov), [.t 0], (some (19, false))⟩,
      ⟨(some 21), (.pure .nilchk), [.t 20], (some (19, false))⟩,
      ⟨(some 22), (.pure (.fadd 15)), [.t 21], (some (19, false))⟩,
      ⟨(some 23), (.read (.load 1 false) []), [.t 22], (some (19, false))⟩,
      ⟨(some 24), (.pure (.un .not)), [.t 23], (some (19, false))⟩,
      ⟨(some 25), (.pure .pick), [.t 19, .c (.bool true), .t 24], none⟩,
      ⟨(some 26), (.pure .mov), [.t 25], none⟩,
      ⟨(some 27), (.pure .mov), [.t 0], (some (26, false))⟩,
      ⟨(some 28), (.pure .mov), [.t 2], (some (26, false))⟩,
      ⟨(some 29), (.call 60), [.t 27, .t 28], (some (26, false))⟩,
      ⟨(some 30), (.pure (.un .not)), [.t 29], (some (26, false))⟩,
      ⟨(some 31), (.pure .pick), [.t 26, .c (.bool true), .t 30], none⟩] false) c37_2) c37_1)
def k37 : DFn := ⟨109, (.seq (.region [
      ⟨(some 6), (.pure .mov), [.c (.slice none 0 0)], none⟩] false) c37_0), [.tmp 6]⟩
theorem c37 : (match Tryz.prog.funcs[37]? with | some fn => compileFn Tryz.prog 4 [none, none, none, none, some [6], none, none, none, none, some [6], none, none, none, none, some [6], none, none, none, none, some [6]] fn | none => none) = some k37 := by kernel_rfl
theorem e37 (tb : Nat → Option DFn) (nv : CallF) (a0 a1 a2 : Value) (H : Heap) (Q : Value → Heap → Prop) : wFn tb nv k37 [a0, a1, a2] H Q = (
    Ev tb nv 67 [a1] H fun x0 H1 =>
    wP (.un .not) [x0] fun x2 =>
    asB x2 fun b3 => onB b3 (atK (Q (.slice none 0 0) H1))
    (Ev tb nv 24 [a0] H1 fun x4 H5 =>
    wP (.un .not) [x4] fun x6 =>
    asB x6 fun b7 => onB b7 (atK (Q (.slice none 0 0) H5))
    (wP .nilchk [a0] fun x8 =>
    wP (.fadd 15) [x8] fun x9 =>
    wR (.load 1 false) [x9] H5 fun x10 =>
    wP (.un .not) [x10] fun x11 =>
    asB x11 fun b12 => onB b12 (atK (Q (.slice none 0 0) H5))
    (Ev tb nv 60 [a0, a2] H5 fun x13 H14 =>
    wP (.un .not) [x13] fun x15 =>
    asB x15 fun b16 => onB b16 (atK (Q (.slice none 0 0) H14))
    (wP .nilchk [a1] fun x17 =>
    wP (.fadd 2) [x17] fun x18 =>
    wP (.fadd 0) [x18] fun x19 =>
    wR (.load 1 false) [x19] H14 fun x20 =>
    wP .nilchk [a1] fun x21 =>
    wP (.fadd 6) [x21] fun x22 =>
    wR (.load 1 false) [x22] H14 fun x23 =>
    wP .nilchk [a1] fun x24 =>
    wP (.fadd 8) [x24] fun x25 =>
    wR (.load 1 false) [x25] H14 fun x26 =>
    wP (.build [(.int .i64 0), (.int .i64 0), (.int .i64 0)] [(0, 1), (1, 1), (2, 1)]) [x20, x23, x26] fun x27 =>
    wA (.alloc [(.int .i64 0), (.int .i64 0), (.int .i64 0)]) [] H14 fun x28 H29 =>
    wE (.store 3) [x28, x27] H29 fun x30 H31 =>
    Ev tb nv 59 [a0] H31 fun x32 H33 =>
    asB x32 fun b34 => onB b34 (wChk [H31, H31, H33, H33, H33, H33, H33, H33, H33, H33, H33, H33, H33, H33, H33, H33, H33, H33, H33] [] (wR (.load 3 true) [x28] H33 fun x35 =>
    wP .nilchk [a0] fun x36 =>
    wP (.fadd 17) [x36] fun x37 =>
    wR (.load 1 false) [x37] H33 fun x38 =>
    Ev tb nv 65 [a0, x35, x38] H33 fun x39 H40 =>
    atK (Q x39 H40)))
    (wP .nilchk [a0] fun x41 =>
    wP (.fadd 9) [x41] fun x42 =>
    wR (.load 1 false) [x42] H33 fun x43 =>
    wP .nilchk [a1] fun x44 =>
    wP (.fadd 8) [x44] fun x45 =>
    wR (.load 1 false) [x45] H33 fun x46 =>
    Ev tb nv 70 [x43, x46] H33 fun x47 H48 =>
    wP .nilchk [a0] fun x49 =>
    wP (.fadd 17) [x49] fun x50 =>
    wR (.load 1 false) [x50] H48 fun x51 =>
    wP (.bin .leq) [x47, x51] fun x52 =>
    wChk [H31, H31, H33, H33, H33, H33, H33, H33, H33, H33, H33, H33, H48, H48, H48, H48, H48, H48, H48] [⟨(.load 1 false), [x50], x51, [11]⟩] (asB x52 fun b53 => onB b53 (wR (.load 3 true) [x28] H48 fun x54 =>
    wP .nilchk [a0] fun x55 =>
    wP (.fadd 17) [x55] fun x56 =>
    wR (.load 1 false) [x56] H48 fun x57 =>
    Ev tb nv 65 [a0, x54, x57] H48 fun x58 H59 =>
    atK (Q x58 H59))
    (wP .nilchk [a0] fun x60 =>
    wP (.fadd 10) [x60] fun x61 =>
    wR (.load 2 true) [x61] H48 fun x62 =>
    Ev tb nv 61 [x62] H48 fun x63 H64 =>
    wP (.extract 0) [x63] fun x65 =>
    wP (.extract 1) [x63] fun x66 =>
    wA (.alloc [(.int .i64 0), (.int .i64 0)]) [] H64 fun x67 H68 =>
    wE (.store 2) [x67, x65] H68 fun x69 H70 =>
    wP .nilchk [a0] fun x71 =>
    wP (.fadd 21) [x71] fun x72 =>
    wR (.load 1 false) [x72] H70 fun x73 =>
    wP .lenS [x73] fun x74 =>
    wP (.bin .geq) [x74, (.int .i64 8)] fun x75 =>
    asB x75 fun b76 => onB b76 (atK (Q (.slice none 0 0) H70))
    (wP .nilchk [a0] fun x77 =>
    wP (.fadd 21) [x77] fun x78 =>
    wR (.load 1 false) [x78] H70 fun x79 =>
    wR (.load 3 true) [x28] H70 fun x80 =>
    wA (.bslice [(.int .i64 0), (.int .i64 0), (.int .i64 0)] [(0, 3)] 3 1) [x80] H70 fun x81 H82 =>
    wE (.app 3 24) [x79, x81] H82 fun x83 H84 =>
    wP .nilchk [a0] fun x85 =>
    wP (.fadd 21) [x85] fun x86 =>
    wE (.store 1) [x86, x83] H84 fun x87 H88 =>
    wR (.load 2 true) [x67] H88 fun x89 =>
    Ev tb nv 54 [a0, x89, (.int .i64 11), (.int .i64 0)] H88 fun x90 H91 =>
    wA (.alloc [(.int .i64 0), (.int .i64 0), (.int .i64 0), (.int .i64 0), (.int .i64 0), (.int .i64 0), (.int .i64 0), (.int .i64 0), (.int .i64 0), (.int .i64 0), (.bool false), (.int .i64 0), (.int .i64 0), (.int .i64 0), (.int .i64 0), (.int .i64 0), (.int .i64 0), (.int .i64 0), (.int .i64 0), (.int .i64 0), (.string ⟨⟨[]⟩⟩), (.int .i64 0), (.int .i64 0), (.int .i64 0), (.int .i64 0), (.slice none 0 0), (.slice none 0 0), (.int .i64 0)]) [] H91 fun x92 H93 =>
    wE (.store 28) [x92, x90] H93 fun x94 H95 =>
    wP (.fadd 0) [x28] fun x96 =>
    wR (.load 1 false) [x96] H95 fun x97 =>
    wP (.fadd 1) [x28] fun x98 =>
    wR (.load 1 false) [x98] H95 fun x99 =>
    wP (.fadd 2) [x28] fun x100 =>
    wR (.load 1 false) [x100] H95 fun x101 =>
    wP (.fadd 7) [x92] fun x102 =>
    wE (.store 1) [x102, x97] H95 fun x103 H104 =>
    wP (.fadd 6) [x92] fun x105 =>
    wE (.store 1) [x105, x99] H104 fun x106 H107 =>
    wP (.fadd 8) [x92] fun x108 =>
    wE (.store 1) [x108, x101] H107 fun x109 H110 =>
    wChk [H95, H95, H95, H95, H95, H95, H95, H95, H104, H104, H107, H107, H110] [⟨(.load 1 false), [x98], x99, [8]⟩, ⟨(.load 1 false), [x100], x101, [8, 10]⟩] (wR (.load 28 true) [x92] H110 fun x111 =>
    wA (.bslice [(.int .i64 0), (.int .i64 0), (.int .i64 0), (.int .i64 0), (.int .i64 0), (.int .i64 0), (.int .i64 0), (.int .i64 0), (.int .i64 0), (.int .i64 0), (.bool false), (.int .i64 0), (.int .i64 0), (.int .i64 0), (.int .i64 0), (.int .i64 0), (.int .i64 0), (.int .i64 0), (.int .i64 0), (.int .i64 0), (.string ⟨⟨[]⟩⟩), (.int .i64 0), (.int .i64 0), (.int .i64 0), (.int .i64 0), (.slice none 0 0), (.slice none 0 0), (.int .i64 0)] [(0, 28)] 28 1) [x111] H110 fun x112 H113 =>
    atK (Q x112 H113))))))))))) := by kernel_rfl

/-- (*tompion/node.Node).polls -/
def c38_11 : C := .ret
def c38_10 : C := (.keep [6] c38_11)
def c38_6 : C := (.seq (.region [
      ⟨(some 47), (.pure .mov), [.t 1], none⟩,
      ⟨(some 48), (.pure .nilchk), [.t 47], none⟩,
      ⟨(some 49), (.pure (.fadd 2)), [.t 48], none⟩,
      ⟨(some 50), (.pure (.fadd 0)), [.t 49], none⟩,
      ⟨(some 51), (.read (.load 1 false) []), [.t 50], none⟩,
      ⟨(some 52), (.pure .mov), [.t 8], none⟩,
      ⟨(some 53), (.pure .mov), [.t 7], none⟩,
      ⟨(some 54), (.pure (.build [(.int .i64 (Int.ofNat 0)), (.int .i64 (Int.ofNat 0)), (.int .i64 (Int.ofNat 0)), (.int .i64 (Int.ofNat 0)), (.int .i64 (Int.ofNat 0)), (.int .i64 (Int.ofNat 0)), (.int .i64 (Int.ofNat 0)), (.int .i64 (Int.ofNat 0)), (.int .i64 (Int.ofNat 0)), (.int .i64 (Int.ofNat 0)), (.bool false), (.int .i64 (Int.ofNat 0)), (.int .i64 (Int.ofNat 0)), (.int .i64 (Int.ofNat 0)), (.int .i64 (Int.ofNat 0)), (.int .i64 (Int.ofNat 0)), (.int .i64 (Int.ofNat 0)), (.int .i64 (Int.ofNat 0)), (.int .i64 (Int.ofNat 0)), (.int .i64 (Int.ofNat 0)), (.string ⟨⟨[]⟩⟩), (.int .i64 (Int.ofNat 0)), (.int .i64 (Int.ofNat 0)), (.int .i64 (Int.ofNat 0)), (.int .i64 (Int.ofNat 0)), (.slice none 0 0), (.slice none 0 0), (.int .i64 (Int.ofNat 0))] [(0, 1), (1, 1), (5, 1), (26, 1)])), [.c (.int .i64 (Int.ofNat 14)), .t 51, .t 52, .t 53], none⟩,
      ⟨(some 55), (.alloc (.bslice [(.int .i64 (Int.ofNat 0)), (.int .i64 (Int.ofNat 0)), (.int .i64 (Int.ofNat 0)), (.int .i64 (Int.ofNat 0)), (.int .i64 (Int.ofNat 0)), (.int .i64 (Int.ofNat 0)), (.int .i64 (Int.ofNat 0)), (.int .i64 (Int.ofNat 0)), (.int .i64 (Int.ofNat 0)), (.int .i64 (Int.ofNat 0)), (.bool false), (.int .i64 (Int.ofNat 0)), (.int .i64 (Int.ofNat 0)), (.int .i64 (Int.ofNat 0)), (.int .i64 (Int.ofNat 0)), (.int .i64 (Int.ofNat 0)), (.int .i64 (Int.ofNat 0)), (.int .i64 (Int.ofNat 0)), (.int .i64 (Int.ofNat 0)), (.int .i64 (Int.ofNat 0)), (.string ⟨⟨[]⟩⟩), (.int .i64 (Int.ofNat 0)), (.int .i64 (Int.ofNat 0)), (.int .i64 (Int.ofNat 0)), (.int .i64 (Int.ofNat 0)), (.slice none 0 0), (.slice none 0 0), (.int .i64 (Int.ofNat 0))] [(0, 28)] 28 1)), [.t 54], none⟩,
      ⟨(some 6), (.pure .mov), [.t 55], none⟩] false) c38_10)
def c38_9 : C := .ret
def c38_8 : C := (.keep [6] c38_9)
def c38_7 : C := (.cond (.t 46) (.seq (.region [
      ⟨(some 6), (.pure .mov), [.c (.slice none 0 0)], none⟩] false) c38_8)
    .skip)
def c38_5 : C := (.seq (.seq (.region [
      ⟨(some 45), (.pure .mov), [.t 8], none⟩,
      ⟨(some 46), (.pure (.bin .leq)), [.t 45, .c (.int .i64 (Int.ofNat 0))], none⟩] false) c38_7) c38_6)
def c38_1 : C := (.seq (.region [
      ⟨(some 25), (.pure .mov), [.t 0], none⟩,
      ⟨(some 26), (.pure .nilchk), [.t 25], none⟩,
      ⟨(some 27), (.pure (.fadd 9)), [.t 26], none⟩,
      ⟨(some 28), (.read (.load 1 false) []), [.t 27], none⟩,
      ⟨(some 29), (.pure .mov), [.t 1], none⟩,
      ⟨(some 30), (.pure .nilchk), [.t 29], none⟩,
      ⟨(some 31), (.pure (.fadd 2)), [.t 30], none⟩,
      ⟨(some 32), (.pure (.fadd 0)), [.t 31], none⟩,
      ⟨(some 33), (.read (.load 1 false) []), [.t 32], none⟩,
      ⟨(some 34), (.pure .mov), [.t 1], none⟩,
      ⟨(some 35), (.pure .nilchk), [.t 34], none⟩,
      ⟨(some 36), (.pure (.fadd 5)), [.t 35], none⟩,
      ⟨(some 37), (.read (.load 1 false) []), [.t 36], none⟩,
      ⟨(some 38), (.pure .mov), [.t 0], none⟩,
      ⟨(some 39), (.pure .nilchk), [.t 38], none⟩,
      ⟨(some 40), (.pure (.fadd 17)), [.t 39], none⟩,
      ⟨(some 41), (.read (.load 1 false) []), [.t 40], none⟩,
      ⟨(some 42), (.call 71), [.t 28, .t 33, .t 37, .t 41, .c (.int .i64 (Int.ofNat 8))], none⟩,
      ⟨(some 24), (.pure .mov), [.t 42], none⟩,
      ⟨(some 43), (.pure (.extract 0)), [.t 24], none⟩,
      ⟨(some 44), (.pure (.extract 1)), [.t 24], none⟩,
      ⟨(some 7), (.pure .mov), [.t 43], none⟩,
      ⟨(some 8), (.pure .mov), [.t 44], none⟩] false) c38_5)
def c38_4 : C := .ret
def c38_3 : C := (.keep [6] c38_4)
def c38_2 : C := (.cond (.t 23) (.seq (.region [
      ⟨(some 6), (.pure .mov), [.c (.slice none 0 0)], none⟩] false) c38_3)
    .skip)
def c38_0 : C := (.seq (.seq (.region [
      ⟨(some 9), (.pure .mov), [.t 1], none⟩,
      ⟨(some 10), (.call 67), [.t 9], none⟩,
      ⟨(some 11), (.pure (.un .not)), [.t 10], none⟩,
      ⟨(some 12), (.pure .mov), [.t 11], none⟩,
      ⟨(some 13), (.pure .mov), [.t 0], (some (12, false))⟩,
      ⟨(some 14), (.call 59), [.t 13], (some (12, false))⟩,
      ⟨(some 15), (.pure (.un .not)), [.t 14], (some (12, false))⟩,
      ⟨(some 16), (.pure .pick), [.t 12, .c (.bool true), .t 15], none⟩,
      ⟨(some 17), (.pure .mov), [.t 16], none⟩,
      ⟨(some 18), (.pure .mov), [.t 0], (some (17, false))⟩,
      ⟨(some 19), (.pure .nilchk), [.t 18], (some (17, false))⟩,
      ⟨(some 20), (.pure (.fadd 15)), [.t 19], (some (17, false))⟩,
      ⟨(some 21), (.read (.load 1 false) []), [.t 20], (some (17, false))⟩,
      ⟨(some 22), (.pure (.un .not)), [.t 21], (some (17, false))⟩,
      ⟨(some 23), (.pure .pick), [.t 17, .c (.bool true), .t 22], none⟩] false) c38_2) c38_1)
def k38 : DFn := ⟨56, (.seq (.region [
      ⟨(some 6), (.pure .mov), [.c (.slice none 0 0)], none⟩] false) c38_0), [.tmp 6]⟩
theorem c38 : (match Tryz.prog.funcs[38]? with | some fn => compileFn Tryz.prog 4 [none, none, none, none, some [6], none, none, none, none, some [6], none, some [6]] fn | none => none) = some k38 := by kernel_rfl
theorem e38 (tb : Nat → Option DFn) (nv : CallF) (a0 a1 a2 : Value) (H : Heap) (Q : Value → Heap → Prop) : wFn tb nv k38 [a0, a1, a2] H Q = (
    Ev tb nv 67 [a1] H fun x0 H1 =>
    wP (.un .not) [x0] fun x2 =>
    asB x2 fun b3 => onB b3 (atK (Q (.slice none 0 0) H1))
    (Ev tb nv 59 [a0] H1 fun x4 H5 =>
    wP (.un .not) [x4] fun x6 =>
    asB x6 fun b7 => onB b7 (atK (Q (.slice none 0 0) H5))
    (wP .nilchk [a0] fun x8 =>
    wP (.fadd 15) [x8] fun x9 =>
    wR (.load 1 false) [x9] H5 fun x10 =>
    wP (.un .not) [x10] fun x11 =>
    asB x11 fun b12 => onB b12 (atK (Q (.slice none 0 0) H5))
    (wP .nilchk [a0] fun x13 =>
    wP (.fadd 9) [x13] fun x14 =>
    wR (.load 1 false) [x14] H5 fun x15 =>
    wP .nilchk [a1] fun x16 =>
    wP (.fadd 2) [x16] fun x17 =>
    wP (.fadd 0) [x17] fun x18 =>
    wR (.load 1 false) [x18] H5 fun x19 =>
    wP .nilchk [a1] fun x20 =>
    wP (.fadd 5) [x20] fun x21 =>
    wR (.load 1 false) [x21] H5 fun x22 =>
    wP .nilchk [a0] fun x23 =>
    wP (.fadd 17) [x23] fun x24 =>
    wR (.load 1 false) [x24] H5 fun x25 =>
    Ev tb nv 71 [x15, x19, x22, x25, (.int .i64 8)] H5 fun x26 H27 =>
    wP (.extract 0) [x26] fun x28 =>
    wP (.extract 1) [x26] fun x29 =>
    wP (.bin .leq) [x29, (.int .i64 0)] fun x30 =>
    asB x30 fun b31 => onB b31 (atK (Q (.slice none 0 0) H27))
    (wP .nilchk [a1] fun x32 =>
    wP (.fadd 2) [x32] fun x33 =>
    wP (.fadd 0) [x33] fun x34 =>
    wR (.load 1 false) [x34] H27 fun x35 =>
    wP (.build [(.int .i64 0), (.int .i64 0), (.int .i64 0), (.int .i64 0), (.int .i64 0), (.int .i64 0), (.int .i64 0), (.int .i64 0), (.int .i64 0), (.int .i64 0), (.bool false), (.int .i64 0), (.int .i64 0), (.int .i64 0), (.int .i64 0), (.int .i64 0), (.int .i64 0), (.int .i64 0), (.int .i64 0), (.int .i64 0), (.string ⟨⟨[]⟩⟩), (.int .i64 0), (.int .i64 0), (.int .i64 0), (.int .i64 0), (.slice none 0 0), (.slice none 0 0), (.int .i64 0)] [(0, 1), (1, 1), (5, 1), (26, 1)]) [(.int .i64 14), x35, x29, x28] fun x36 =>
    wA (.bslice [(.int .i64 0), (.int .i64 0), (.int .i64 0), (.int .i64 0), (.int .i64 0), (.int .i64 0), (.int .i64 0), (.int .i64 0), (.int .i64 0), (.int .i64 0), (.bool false), (.int .i64 0), (.int .i64 0), (.int .i64 0), (.int .i64 0), (.int .i64 0), (.int .i64 0), (.int .i64 0), (.int .i64 0), (.int .i64 0), (.string ⟨⟨[]⟩⟩), (.int .i64 0), (.int .i64 0), (.int .i64 0), (.int .i64 0), (.slice none 0 0), (.slice none 0 0), (.int .i64 0)] [(0, 28)] 28 1) [x36] H27 fun x37 H38 =>
    atK (Q x37 H38)))))) := by kernel_rfl

/-- (*tompion/node.Node).ours -/
def c39_2 : C := .ret
def c39_1 : C := (.keep [4] c39_2)
def c39_0 : C := (.seq (.region [
      ⟨(some 5), (.pure .mov), [.t 0], none⟩,
      ⟨(some 6), (.call 24), [.t 5], none⟩,
      ⟨(some 7), (.pure .mov), [.t 6], none⟩,
      ⟨(some 8), (.pure .mov), [.t 1], (some (7, true))⟩,
      ⟨(some 9), (.pure .nilchk), [.t 8], (some (7, true))⟩,
      ⟨(some 10), (.pure (.fadd 4)), [.t 9], (some (7, true))⟩,
      ⟨(some 11), (.read (.load 1 false) []), [.t 10], (some (7, true))⟩,
      ⟨(some 12), (.pure .mov), [.t 0], (some (7, true))⟩,
      ⟨(some 13), (.pure .nilchk), [.t 12], (some (7, true))⟩,
      ⟨(some 14), (.pure (.fadd 10)), [.t 13], (some (7, true))⟩,
      ⟨(some 15), (.pure (.fadd 0)), [.t 14], (some (7, true))⟩,
      ⟨(some 16), (.read (.load 1 false) []), [.t 15], (some (7, true))⟩,
      ⟨(some 17), (.pure (.bin .eql)), [.t 11, .t 16], (some (7, true))⟩,
      ⟨(some 18), (.pure .pick), [.t 7, .t 17, .c (.bool false)], none⟩,
      ⟨(some 19), (.pure .mov), [.t 18], none⟩,
      ⟨(some 20), (.pure .mov), [.t 1], (some (19, true))⟩,
      ⟨(some 21), (.pure .nilchk), [.t 20], (some (19, true))⟩,
      ⟨(some 22), (.pure (.fadd 27)), [.t 21], (some (19, true))⟩,
      ⟨(some 23), (.read (.load 1 false) []), [.t 22], (some (19, true))⟩,
      ⟨(some 24), (.pure .mov), [.t 0], (some (19, true))⟩,
      ⟨(some 25), (.pure .nilchk), [.t 24], (some (19, true))⟩,
      ⟨(some 26), (.pure (.fadd 7)), [.t 25], (some (19, true))⟩,
      ⟨(some 27), (.pure (.fadd 1)), [.t 26], (some (19, true))⟩,
      ⟨(some 28), (.read (.load 1 false) []), [.t 27], (some (19, true))⟩,
      ⟨(some 29), (.pure (.bin .eql)), [.t 23, .t 28], (some (19, true))⟩,
      ⟨(some 30), (.pure .pick), [.t 19, .t 29, .c (.bool false)], none⟩,
      ⟨(some 31), (.pure .mov), [.t 30], none⟩,
      ⟨(some 32), (.pure .mov), [.t 0], (some (31, true))⟩,
      ⟨(some 33), (.pure .nilchk), [.t 32], (some (31, true))⟩,
      ⟨(some 34), (.pure (.fadd 10)), [.t 33], (some (31, true))⟩,
      ⟨(some 35), (.read (.load 2 true) []), [.t 34], (some (31, true))⟩,
      ⟨(some 36), (.pure .mov), [.t 1], (some (31, true))⟩,
      ⟨(some 37), (.pure .nilchk), [.t 36], (some (31, true))⟩,
      ⟨(some 38), (.pure (.fadd 2)), [.t 37], (some (31, true))⟩,
      ⟨(some 39), (.read (.load 2 true) []), [.t 38], (some (31, true))⟩,
      ⟨(some 40), (.call 22), [.t 35, .t 39], (some (31, true))⟩,
      ⟨(some 41), (.pure (.bin .geq)), [.t 40, .c (.int .i64 (Int.ofNat 0))], (some (31, true))⟩,
      ⟨(some 42), (.pure .pick), [.t 31, .t 41, .c (.bool false)], none⟩,
      ⟨(some 4), (.pure .mov), [.t 42], none⟩] false) c39_1)
def k39 : DFn := ⟨43, (.seq (.region [
      ⟨(some 4), (.pure .mov), [.c (.bool false)], none⟩] false) c39_0), [.tmp 4]⟩
theorem c39 : (match Tryz.prog.funcs[39]? with | some fn => compileFn Tryz.prog 4 [none, none, some [4]] fn | none => none) = some k39 := by kernel_rfl


/-- (*tompion/oplog.Log).From -/
def c40_12 : C := .ret
def c40_11 : C := (.keep [6] c40_12)
def c40_10 : C := (.seq (.region [
      ⟨(some 34), (.pure .mov), [.t 6], none⟩,
      ⟨(some 6), (.pure .mov), [.t 34], none⟩] false) c40_11)
def c40_1 : C := (.keep [6] c40_10)
def c40_9 : C := .skip
def c40_4 : C := (.keep [0, 2, 6, 7] c40_9)
def c40_8 : C := (.region [
      ⟨(some 20), (.pure .mov), [.t 7], none⟩,
      ⟨(some 21), (.pure (.bin .add)), [.t 20, .c (.int .i64 (Int.ofNat 1))], none⟩,
      ⟨(some 7), (.pure .mov), [.t 21], none⟩] false)
def c40_5 : C := (.seq (.block 1 (.region [
      ⟨(some 22), (.pure .mov), [.t 6], none⟩,
      ⟨(some 23), (.pure .mov), [.t 0], none⟩,
      ⟨(some 24), (.pure .nilchk), [.t 23], none⟩,
      ⟨(some 25), (.pure (.fadd 1)), [.t 24], none⟩,
      ⟨(some 26), (.read (.load 1 false) []), [.t 25], none⟩,
      ⟨(some 27), (.pure .mov), [.t 7], none⟩,
      ⟨(some 28), (.pure (.bin .sub)), [.t 27, .c (.int .i64 (Int.ofNat 1))], none⟩,
      ⟨(some 29), (.pure (.iaddS 19)), [.t 26, .t 28], none⟩,
      ⟨(some 30), (.pure (.fadd 0)), [.t 29], none⟩,
      ⟨(some 31), (.read (.load 10 true) []), [.t 30], none⟩,
      ⟨(some 32), (.alloc (.bslice [(.int .i64 (Int.ofNat 0)), (.int .i64 (Int.ofNat 0)), (.int .i64 (Int.ofNat 0)), (.int .i64 (Int.ofNat 0)), (.int .i64 (Int.ofNat 0)), (.int .i64 (Int.ofNat 0)), (.int .i64 (Int.ofNat 0)), (.int .i64 (Int.ofNat 0)), (.int .i64 (Int.ofNat 0)), (.string ⟨⟨[]⟩⟩)] [(0, 10)] 10 1)), [.t 31], none⟩,
      ⟨(some 33), (.eff (.app 10 88)), [.t 22, .t 32], none⟩,
      ⟨(some 6), (.pure .mov), [.t 33], none⟩] false)) c40_8)
def c40_7 : C := (.exit 0)
def c40_6 : C := (.cond (.t 19) .skip
    (.keep [6] c40_7))
def c40_3 : C := (.seq (.seq (.seq (.region [
      ⟨(some 10), (.pure .mov), [.t 7], none⟩,
      ⟨(some 11), (.pure .mov), [.t 0], none⟩,
      ⟨(some 12), (.call 52), [.t 11], none⟩,
      ⟨(some 13), (.pure (.bin .leq)), [.t 10, .t 12], none⟩,
      ⟨(some 14), (.pure .mov), [.t 13], none⟩,
      ⟨(some 15), (.pure .mov), [.t 6], (some (14, true))⟩,
      ⟨(some 16), (.pure .lenS), [.t 15], (some (14, true))⟩,
      ⟨(some 17), (.pure .mov), [.t 2], (some (14, true))⟩,
      ⟨(some 18), (.pure (.bin .lss)), [.t 16, .t 17], (some (14, true))⟩,
      ⟨(some 19), (.pure .pick), [.t 14, .t 18, .c (.bool false)], none⟩] false) c40_6) c40_5) c40_4)
def c40_2 : C := (.block 0 (.loop (some [0, 2, 6, 7]) c40_3))
def c40_0 : C := (.seq (.seq (.region [
      ⟨(some 8), (.pure .mov), [.t 1], none⟩,
      ⟨(some 9), (.pure .max), [.t 8, .c (.int .i64 (Int.ofNat 1))], none⟩,
      ⟨(some 7), (.pure .mov), [.t 9], none⟩] false) c40_2) c40_1)
def k40 : DFn := ⟨35, (.seq (.region [
      ⟨(some 6), (.pure .mov), [.c (.slice none 0 0)], none⟩] false) c40_0), [.tmp 6]⟩
theorem c40 : (match Tryz.prog.funcs[40]? with | some fn => compileFn Tryz.prog 4 [none, some [6], none, some [0, 2, 6, 7], none, none, some [6], none, none, some [6]] fn | none => none) = some k40 := by kernel_rfl


/-- tompion/state.New -/
def c41_2 : C := .ret
def c41_1 : C := (.keep [2] c41_2)
def c41_0 : C := (.seq (.region [
      ⟨(some 3), (.pure .mov), [.t 0], none⟩,
      ⟨(some 4), (.pure .max), [.t 3, .c (.int .i64 (Int.ofNat 1))], none⟩,
      ⟨(some 5), (.pure .min), [.t 4, .c (.int .i64 (Int.ofNat 16))], none⟩,
      ⟨(some 6), (.alloc .mkmap), [], none⟩,
      ⟨(some 7), (.call 72), [], none⟩,
      ⟨(some 8), (.pure (.build [(.int .i64 (Int.ofNat 0)), (.int .i64 (Int.ofNat 0)), (.map none), (.slice none 0 0), (.pointer none)] [(0, 1), (2, 1), (4, 1)])), [.t 5, .t 6, .t 7], none⟩,
      ⟨(some 9), (.alloc .box), [.t 8], none⟩,
      ⟨(some 2), (.pure .mov), [.t 9], none⟩] false) c41_1)
def k41 : DFn := ⟨10, (.seq (.region [
      ⟨(some 2), (.pure .mov), [.c (.pointer none)], none⟩] false) c41_0), [.tmp 2]⟩
theorem c41 : (match Tryz.prog.funcs[41]? with | some fn => compileFn Tryz.prog 4 [none, none, some [2]] fn | none => none) = some k41 := by kernel_rfl


/-- tompion/wheel.New -/
def c42_2 : C := .ret
def c42_1 : C := (.keep [2] c42_2)
def c42_0 : C := (.seq (.region [
      ⟨(some 3), (.pure .mov), [.t 0], none⟩,
      ⟨(some 4), (.pure .max), [.t 3, .c (.int .i64 (Int.ofNat 0))], none⟩,
      ⟨(some 5), (.pure .min), [.t 4, .c (.int .i64 (Int.ofNat 1099511627776))], none⟩,
      ⟨(some 6), (.alloc .mkmap), [], none⟩,
      ⟨(some 7), (.pure (.build [(.int .i64 (Int.ofNat 0)), (.map none), (.int .u64 (Int.ofNat 0)), (.slice none 0 0), (.slice none 0 0), (.slice none 0 0), (.slice none 0 0), (.slice none 0 0), (.slice none 0 0), (.slice none 0 0), (.slice none 0 0), (.slice none 0 0), (.slice none 0 0), (.slice none 0 0), (.slice none 0 0), (.slice none 0 0), (.slice none 0 0), (.slice none 0 0), (.slice none 0 0), (.slice none 0 0), (.slice none 0 0), (.slice none 0 0), (.slice none 0 0), (.slice none 0 0), (.slice none 0 0), (.slice none 0 0), (.slice none 0 0), (.slice none 0 0), (.slice none 0 0), (.slice none 0 0), (.slice none 0 0), (.slice none 0 0), (.slice none 0 0), (.slice none 0 0), (.slice none 0 0), (.slice none 0 0), (.slice none 0 0), (.slice none 0 0), (.slice none 0 0), (.slice none 0 0), (.slice none 0 0), (.slice none 0 0), (.slice none 0 0), (.slice none 0 0), (.slice none 0 0), (.slice none 0 0), (.slice none 0 0), (.slice none 0 0), (.slice none 0 0), (.slice none 0 0), (.slice none 0 0), (.slice none 0 0), (.slice none 0 0), (.slice none 0 0), (.slice none 0 0), (.slice none 0 0), (.slice none 0 0), (.slice none 0 0), (.slice none 0 0), (.slice none 0 0), (.slice none 0 0), (.slice none 0 0), (.slice none 0 0), (.slice none 0 0), (.slice none 0 0), (.slice none 0 0), (.slice none 0 0), (.int .u64 (Int.ofNat 0)), (.slice none 0 0), (.slice none 0 0), (.slice none 0 0), (.slice none 0 0), (.slice none 0 0), (.slice none 0 0), (.slice none 0 0), (.slice none 0 0), (.slice none 0 0), (.slice none 0 0), (.slice none 0 0), (.slice none 0 0), (.slice none 0 0), (.slice none 0 0), (.slice none 0 0), (.slice none 0 0), (.slice none 0 0), (.slice none 0 0), (.slice none 0 0), (.slice none 0 0), (.slice none 0 0), (.slice none 0 0), (.slice none 0 0), (.slice none 0 0), (.slice none 0 0), (.slice none 0 0), (.slice none 0 0), (.slice none 0 0), (.slice none 0 0), (.slice none 0 0), (.slice none 0 0), (.slice none 0 0), (.slice none 0 0), (.slice none 0 0), (.slice none 0 0), (.slice none 0 0), (.slice none 0 0), (.slice none 0 0), (.slice none 0 0), (.slice none 0 0), (.slice none 0 0), (.slice none 0 0), (.slice none 0 0), (.slice none 0 0), (.slice none 0 0), (.slice none 0 0), (.slice none 0 0), (.slice none 0 0), (.slice none 0 0), (.slice none 0 0), (.slice none 0 0), (.slice none 0 0), (.slice none 0 0), (.slice none 0 0), (.slice none 0 0), (.slice none 0 0), (.slice none 0 0), (.slice none 0 0), (.slice none 0 0), (.slice none 0 0), (.slice none 0 0), (.slice none 0 0), (.slice none 0 0), (.slice none 0 0), (.int .u64 (Int.ofNat 0)), (.slice none 0 0), (.slice none 0 0), (.slice none 0 0), (.slice none 0 0), (.slice none 0 0), (.slice none 0 0), (.slice none 0 0), (.slice none 0 0), (.slice none 0 0), (.slice none 0 0), (.slice none 0 0), (.slice none 0 0), (.slice none 0 0), (.slice none 0 0), (.slice none 0 0), (.slice none 0 0), (.slice none 0 0), (.slice none 0 0), (.slice none 0 0), (.slice none 0 0), (.slice none 0 0), (.slice none 0 0), (.slice none 0 0), (.slice none 0 0), (.slice none 0 0), (.slice none 0 0), (.slice none 0 0), (.slice none 0 0), (.slice none 0 0), (.slice none 0 0), (.slice none 0 0), (.slice none 0 0), (.slice none 0 0), (.slice none 0 0), (.slice none 0 0), (.slice none 0 0), (.slice none 0 0), (.slice none 0 0), (.slice none 0 0), (.slice none 0 0), (.slice none 0 0), (.slice none 0 0), (.slice none 0 0), (.slice none 0 0), (.slice none 0 0), (.slice none 0 0), (.slice none 0 0), (.slice none 0 0), (.slice none 0 0), (.slice none 0 0), (.slice none 0 0), (.slice none 0 0), (.slice none 0 0), (.slice none 0 0), (.slice none 0 0), (.slice none 0 0), (.slice none 0 0), (.slice none 0 0), (.slice none 0 0), (.slice none 0 0), (.slice none 0 0), (.slice none 0 0), (.slice none 0 0), (.slice none 0 0), (.int .u64 (Int.ofNat 0)), (.slice none 0 0), (.slice none 0 0), (.slice none 0 0), (.slice none 0 0), (.slice none 0 0), (.slice none 0 0), (.slice none 0 0), (.slice none 0 0), (.slice none 0 0), (.slice none 0 0), (.slice none 0 0), (.slice none 0 0), (.slice none 0 0), (.slice none 0 0), (.slice none 0 0), (.slice none 0 0), (.slice none 0 0), (.slice none 0 0), (.slice none 0 0), (.slice none 0 0), (.slice none 0 0), (.slice none 0 0), (.slice none 0 0), (.slice none 0 0), (.slice none 0 0), (.slice none 0 0), (.slice none 0 0), (.slice none 0 0), (.slice none 0 0), (.slice none 0 0), (.slice none 0 0), (.slice none 0 0), (.slice none 0 0), (.slice none 0 0), (.slice none 0 0), (.slice none 0 0), (.slice none 0 0), (.slice none 0 0), (.slice none 0 0), (.slice none 0 0), (.slice none 0 0), (.slice none 0 0), (.slice none 0 0), (.slice none 0 0), (.slice none 0 0), (.slice none 0 0), (.slice none 0 0), (.slice none 0 0), (.slice none 0 0), (.slice none 0 0), (.slice none 0 0), (.slice none 0 0), (.slice none 0 0), (.slice none 0 0), (.slice none 0 0), (.slice none 0 0), (.slice none 0 0), (.slice none 0 0), (.slice none 0 0), (.slice none 0 0), (.slice none 0 0), (.slice none 0 0), (.slice none 0 0), (.slice none 0 0), (.int .u64 (Int.ofNat 0)), (.slice none 0 0), (.slice none 0 0), (.slice none 0 0), (.slice none 0 0), (.slice none 0 0), (.slice none 0 0), (.slice none 0 0), (.slice none 0 0), (.slice none 0 0), (.slice none 0 0), (.slice none 0 0), (.slice none 0 0), (.slice none 0 0), (.slice none 0 0), (.slice none 0 0), (.slice none 0 0), (.slice none 0 0), (.slice none 0 0), (.slice none 0 0), (.slice none 0 0), (.slice none 0 0), (.slice none 0 0), (.slice none 0 0), (.slice none 0 0), (.slice none 0 0), (.slice none 0 0), (.slice none 0 0), (.slice none 0 0), (.slice none 0 0), (.slice none 0 0), (.slice none 0 0), (.slice none 0 0), (.slice none 0 0), (.slice none 0 0), (.slice none 0 0), (.slice none 0 0), (.slice none 0 0), (.slice none 0 0), (.slice none 0 0), (.slice none 0 0), (.slice none 0 0), (.slice none 0 0), (.slice none 0 0), (.slice none 0 0), (.slice none 0 0), (.slice none 0 0), (.slice none 0 0), (.slice none 0 0), (.slice none 0 0), (.slice none 0 0), (.slice none 0 0), (.slice none 0 0), (.slice none 0 0), (.slice none 0 0), (.slice none 0 0), (.slice none 0 0), (.slice none 0 0), (.slice none 0 0), (.slice none 0 0), (.slice none 0 0), (.slice none 0 0), (.slice none 0 0), (.slice none 0 0), (.slice none 0 0), (.int .u64 (Int.ofNat 0)), (.slice none 0 0), (.slice none 0 0), (.slice none 0 0), (.slice none 0 0), (.slice none 0 0), (.slice none 0 0), (.slice none 0 0), (.slice none 0 0), (.slice none 0 0), (.slice none 0 0), (.slice none 0 0), (.slice none 0 0), (.slice none 0 0), (.slice none 0 0), (.slice none 0 0), (.slice none 0 0), (.slice none 0 0), (.slice none 0 0), (.slice none 0 0), (.slice none 0 0), (.slice none 0 0), (.slice none 0 0), (.slice none 0 0), (.slice none 0 0), (.slice none 0 0), (.slice none 0 0), (.slice none 0 0), (.slice none 0 0), (.slice none 0 0), (.slice none 0 0), (.slice none 0 0), (.slice none 0 0), (.slice none 0 0), (.slice none 0 0), (.slice none 0 0), (.slice none 0 0), (.slice none 0 0), (.slice none 0 0), (.slice none 0 0), (.slice none 0 0), (.slice none 0 0), (.slice none 0 0), (.slice none 0 0), (.slice none 0 0), (.slice none 0 0), (.slice none 0 0), (.slice none 0 0), (.slice none 0 0), (.slice none 0 0), (.slice none 0 0), (.slice none 0 0), (.slice none 0 0), (.slice none 0 0), (.slice none 0 0), (.slice none 0 0), (.slice none 0 0), (.slice none 0 0), (.slice none 0 0), (.slice none 0 0), (.slice none 0 0), (.slice none 0 0), (.slice none 0 0), (.slice none 0 0), (.slice none 0 0), (.slice none 0 0), (.slice none 0 0)] [(0, 1), (1, 1)])), [.t 5, .t 6], none⟩,
      ⟨(some 8), (.alloc .box), [.t 7], none⟩,
      ⟨(some 2), (.pure .mov), [.t 8], none⟩] false) c42_1)
def k42 : DFn := ⟨9, (.seq (.region [
      ⟨(some 2), (.pure .mov), [.c (.pointer none)], none⟩] false) c42_0), [.tmp 2]⟩
theorem c42 : (match Tryz.prog.funcs[42]? with | some fn => compileFn Tryz.prog 4 [none, none, some [2]] fn | none => none) = some k42 := by kernel_rfl


/-- tompion/config.may -/
def c43_2 : C := .ret
def c43_1 : C := (.keep [2] c43_2)
def c43_0 : C := (.seq (.region [
      ⟨(some 3), (.pure (.fadd 0)), [.t 1], none⟩,
      ⟨(some 4), (.read (.load 1 false) []), [.t 3], none⟩,
      ⟨(some 5), (.pure (.bin .geq)), [.t 4, .c (.int .i64 (Int.ofNat 0))], none⟩,
      ⟨(some 6), (.pure .mov), [.t 5], none⟩,
      ⟨(some 7), (.pure (.fadd 0)), [.t 1], (some (6, true))⟩,
      ⟨(some 8), (.read (.load 1 false) []), [.t 7], (some (6, true))⟩,
      ⟨(some 9), (.pure (.bin .lss)), [.t 8, .c (.int .i64 (Int.ofNat 8))], (some (6, true))⟩,
      ⟨(some 10), (.pure .pick), [.t 6, .t 9, .c (.bool false)], none⟩,
      ⟨(some 11), (.pure .mov), [.t 10], none⟩,
      ⟨(some 12), (.pure (.fadd 1)), [.t 1], (some (11, true))⟩,
      ⟨(some 13), (.read (.load 1 false) []), [.t 12], (some (11, true))⟩,
      ⟨(some 14), (.pure (.bin .geq)), [.t 13, .c (.int .i64 (Int.ofNat 1))], (some (11, true))⟩,
      ⟨(some 15), (.pure .pick), [.t 11, .t 14, .c (.bool false)], none⟩,
      ⟨(some 16), (.pure .mov), [.t 15], none⟩,
      ⟨(some 17), (.pure (.fadd 1)), [.t 1], (some (16, true))⟩,
      ⟨(some 18), (.read (.load 1 false) []), [.t 17], (some (16, true))⟩,
      ⟨(some 19), (.pure (.bin .leq)), [.t 18, .c (.int .i64 (Int.ofNat 1099511627776))], (some (16, true))⟩,
      ⟨(some 20), (.pure .pick), [.t 16, .t 19, .c (.bool false)], none⟩,
      ⟨(some 2), (.pure .mov), [.t 20], none⟩] false) c43_1)
def k43 : DFn := ⟨21, (.seq (.region [
      ⟨(some 1), (.alloc .box), [.t 0], none⟩,
      ⟨(some 2), (.pure .mov), [.c (.bool false)], none⟩] false) c43_0), [.tmp 2]⟩
theorem c43 : (match Tryz.prog.funcs[43]? with | some fn => compileFn Tryz.prog 4 [none, none, some [2]] fn | none => none) = some k43 := by kernel_rfl


/-- slices.IndexFunc[[]tompion/api.Seat,tompion/api.Seat] -/
def c44_16 : C := .ret
def c44_15 : C := (.keep [4] c44_16)
def c44_14 : C := (.seq (.region [
      ⟨(some 4), (.pure .mov), [.c (.int .i64 (Int.negSucc 0))], none⟩] false) c44_15)
def c44_1 : C := (.keep [] c44_14)
def c44_13 : C := .skip
def c44_4 : C := (.keep [0, 1, 7, 8] c44_13)
def c44_8 : C := (.region [
      ⟨(some 18), (.pure (.bin .add)), [.t 8, .c (.int .i64 (Int.ofNat 1))], none⟩,
      ⟨(some 8), (.pure .mov), [.t 18], none⟩] false)
def c44_12 : C := .ret
def c44_11 : C := (.keep [4] c44_12)
def c44_10 : C := (.cond (.t 16) (.seq (.region [
      ⟨(some 17), (.pure .mov), [.t 5], none⟩,
      ⟨(some 4), (.pure .mov), [.t 17], none⟩] false) c44_11)
    .skip)
def c44_9 : C := (.seq (.region [
      ⟨(some 11), (.pure .mov), [.t 1], none⟩,
      ⟨(some 12), (.pure .mov), [.t 0], none⟩,
      ⟨(some 13), (.pure .mov), [.t 5], none⟩,
      ⟨(some 14), (.pure (.iaddS 3)), [.t 12, .t 13], none⟩,
      ⟨(some 15), (.read (.load 3 true) []), [.t 14], none⟩,
      ⟨(some 16), .callv, [.t 11, .t 15], none⟩] false) c44_10)
def c44_6 : C := (.seq (.block 1 (.seq (.region [
      ⟨(some 10), (.pure .mov), [.t 8], none⟩,
      ⟨(some 5), (.pure .mov), [.t 10], none⟩] false) c44_9)) c44_8)
def c44_7 : C := (.exit 0)
def c44_5 : C := (.seq (.cond (.t 9) .skip
    (.keep [] c44_7)) c44_6)
def c44_3 : C := (.seq (.seq (.region [
      ⟨(some 9), (.pure (.bin .lss)), [.t 8, .t 7], none⟩] false) c44_5) c44_4)
def c44_2 : C := (.block 0 (.loop (some [0, 1, 7, 8]) c44_3))
def c44_0 : C := (.seq (.seq (.region [
      ⟨(some 6), (.pure .mov), [.t 0], none⟩,
      ⟨(some 7), (.pure .lenS), [.t 6], none⟩,
      ⟨(some 8), (.pure .mov), [.c (.int .i64 (Int.ofNat 0))], none⟩] false) c44_2) c44_1)
def k44 : DFn := ⟨19, (.seq (.region [
      ⟨(some 4), (.pure .mov), [.c (.int .i64 (Int.ofNat 0))], none⟩] false) c44_0), [.tmp 4]⟩
theorem c44 : (match Tryz.prog.funcs[44]? with | some fn => compileFn Tryz.prog 4 [none, some [], none, some [0, 1, 7, 8], none, none, some [], none, none, none, none, some [4], none, some [4]] fn | none => none) = some k44 := by kernel_rfl
def q44_0 (tb : Nat → Option DFn) (nv : CallF) (Q : Value → Heap → Prop) : Kont := kSeq (fun wf H => wC tb nv c44_1 wf H (kFn [.tmp 4] Q)) (kFn [.tmp 4] Q)
def q44_1 (tb : Nat → Option DFn) (nv : CallF) (Q : Value → Heap → Prop) : Kont := kBlk 0 (q44_0 tb nv Q)
def w44_14 (tb : Nat → Option DFn) (nv : CallF) (H : Heap) (Q : Value → Heap → Prop) : Prop := wC tb nv c44_14 (mkW []) H (kFn [.tmp 4] Q)
theorem e44 (tb : Nat → Option DFn) (nv : CallF) (a0 a1 : Value) (H : Heap) (Q : Value → Heap → Prop) : wFn tb nv k44 [a0, a1] H Q = (
    wP .lenS [a0] fun x0 =>
    wLoop tb nv c44_3 [0, 1, 7, 8] (mkW [(0, a0), (1, a1), (7, x0), (8, (.int .i64 0))]) H (q44_1 tb nv Q)) := by kernel_rfl
theorem l44_3 (tb : Nat → Option DFn) (nv : CallF) (t0 t1 t7 t8 : Value) (H : Heap) (K : Kont) : wC tb nv c44_3 (mkW [(0, t0), (1, t1), (7, t7), (8, t8)]) H K = (
    wP (.bin .lss) [t8, t7] fun x1 =>
    asB x1 fun b2 => onB b2 (wP (.iaddS 3) [t0, t8] fun x3 =>
    wR (.load 3 true) [x3] H fun x4 =>
    wIns (Ev tb nv) .callv [t1, x4] H fun x5 H6 =>
    asB x5 fun b7 => onB b7 (atK (K .ret (mkW [(4, t8)]) H6))
    (wP (.bin .add) [t8, (.int .i64 1)] fun x8 =>
    atK (K .normal (mkW [(0, t0), (1, t1), (7, t7), (8, x8)]) H6)))
    (atK (K (.exit 0) (mkW []) H))) := by kernel_rfl
theorem x44_3_0 (tb : Nat → Option DFn) (nv : CallF) (t4 : Value) (H : Heap) (Q : Value → Heap → Prop) : (q44_1 tb nv Q) .ret (mkW [(4, t4)]) H = (
    Q t4 H) := by kernel_rfl
theorem x44_3_1 (tb : Nat → Option DFn) (nv : CallF) (H : Heap) (Q : Value → Heap → Prop) : (q44_1 tb nv Q) (.exit 0) (mkW []) H = (
    atK (w44_14 tb nv  H Q)) := by kernel_rfl
theorem e44_14 (tb : Nat → Option DFn) (nv : CallF) (H : Heap) (Q : Value → Heap → Prop) : w44_14 tb nv  H Q = (
    atK (Q (.int .i64 (Int.negSucc 0)) H)) := by kernel_rfl

/-- tompion/config.Place$1 -/
def c45_2 : C := .ret
def c45_1 : C := (.keep [3] c45_2)
def c45_0 : C := (.seq (.region [
      ⟨(some 4), (.pure (.fadd 0)), [.t 2], none⟩,
      ⟨(some 5), (.read (.load 2 true) []), [.t 4], none⟩,
      ⟨(some 6), (.read (.load 2 true) []), [.t 1], none⟩,
      ⟨(some 7), (.pure (.aggEq false [.i, .i])), [.t 5, .t 6], none⟩,
      ⟨(some 3), (.pure .mov), [.t 7], none⟩] false) c45_1)
def k45 : DFn := ⟨8, (.seq (.region [
      ⟨(some 2), (.alloc .box), [.t 0], none⟩,
      ⟨(some 3), (.pure .mov), [.c (.bool false)], none⟩] false) c45_0), [.tmp 3]⟩
theorem c45 : (match Tryz.prog.funcs[45]? with | some fn => compileFn Tryz.prog 4 [none, none, some [3]] fn | none => none) = some k45 := by kernel_rfl


end Go.Proofs.YtdpbbppjjjhnoaaGreatDoor.D
