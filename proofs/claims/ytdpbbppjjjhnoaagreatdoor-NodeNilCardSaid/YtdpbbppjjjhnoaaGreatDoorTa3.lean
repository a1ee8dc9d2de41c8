/- The compiled functions of the seat, as the machine "D" runs them, and what each comes to (written by a program). No statement of the seat is proved in this text. -/
import Derived.Test.YtdpbbppjjjhnoaaGreatDoorDz
import Derived.Test.YtdpbbppjjjhnoaaGreatDoorProg
set_option maxRecDepth 100000
set_option linter.unusedVariables false
namespace Go.Proofs.YtdpbbppjjjhnoaaGreatDoor.D
open Go
/-- (*tompion/node.Node).place -/
def c46_2 : C := .ret
def c46_1 : C := (.keep [2] c46_2)
def c46_0 : C := (.seq (.region [
      ⟨(some 3), (.pure .mov), [.t 0], none⟩,
      ⟨(some 4), (.pure .nilchk), [.t 3], none⟩,
      ⟨(some 5), (.pure (.fadd 10)), [.t 4], none⟩,
      ⟨(some 6), (.read (.load 2 true) []), [.t 5], none⟩,
      ⟨(some 7), (.pure .mov), [.t 0], none⟩,
      ⟨(some 8), (.pure .nilchk), [.t 7], none⟩,
      ⟨(some 9), (.pure (.fadd 7)), [.t 8], none⟩,
      ⟨(some 10), (.read (.load 2 true) []), [.t 9], none⟩,
      ⟨(some 11), (.call 22), [.t 6, .t 10], none⟩,
      ⟨(some 2), (.pure .mov), [.t 11], none⟩] false) c46_1)
def k46 : DFn := ⟨12, (.seq (.region [
      ⟨(some 2), (.pure .mov), [.c (.int .i64 (Int.ofNat 0))], none⟩] false) c46_0), [.tmp 2]⟩
theorem c46 : (match Tryz.prog.funcs[46]? with | some fn => compileFn Tryz.prog 4 [none, none, some [2]] fn | none => none) = some k46 := by kernel_rfl
theorem e46 (tb : Nat → Option DFn) (nv : CallF) (a0 : Value) (H : Heap) (Q : Value → Heap → Prop) : wFn tb nv k46 [a0] H Q = (
    wP .nilchk [a0] fun x0 =>
    wP (.fadd 10) [x0] fun x1 =>
    wR (.load 2 true) [x1] H fun x2 =>
    wP .nilchk [a0] fun x3 =>
    wP (.fadd 7) [x3] fun x4 =>
    wR (.load 2 true) [x4] H fun x5 =>
    Ev tb nv 22 [x2, x5] H fun x6 H7 =>
    atK (Q x6 H7)) := by kernel_rfl

/-- (*tompion/node.Node).head -/
def c47_2 : C := .ret
def c47_1 : C := (.keep [2] c47_2)
def c47_0 : C := (.seq (.region [
      ⟨(some 3), (.pure .mov), [.t 0], none⟩,
      ⟨(some 4), (.call 46), [.t 3], none⟩,
      ⟨(some 5), (.pure (.bin .eql)), [.t 4, .c (.int .i64 (Int.ofNat 0))], none⟩,
      ⟨(some 2), (.pure .mov), [.t 5], none⟩] false) c47_1)
def k47 : DFn := ⟨6, (.seq (.region [
      ⟨(some 2), (.pure .mov), [.c (.bool false)], none⟩] false) c47_0), [.tmp 2]⟩
theorem c47 : (match Tryz.prog.funcs[47]? with | some fn => compileFn Tryz.prog 4 [none, none, some [2]] fn | none => none) = some k47 := by kernel_rfl


/-- (*tompion/oplog.Log).Due -/
def c48_22 : C := .ret
def c48_21 : C := (.keep [6] c48_22)
def c48_20 : C := (.seq (.region [
      ⟨(some 56), (.pure .mov), [.t 6], none⟩,
      ⟨(some 6), (.pure .mov), [.t 56], none⟩] false) c48_21)
def c48_6 : C := (.keep [6] c48_20)
def c48_19 : C := .skip
def c48_9 : C := (.keep [0, 1, 6, 24, 25, 26] c48_19)
def c48_13 : C := (.region [
      ⟨(some 55), (.pure (.bin .add)), [.t 26, .c (.int .i64 (Int.ofNat 1))], none⟩,
      ⟨(some 26), (.pure .mov), [.t 55], none⟩] false)
def c48_18 : C := (.region [
      ⟨(some 44), (.pure .mov), [.t 6], none⟩,
      ⟨(some 45), (.pure (.fadd 0)), [.t 9], none⟩,
      ⟨(some 46), (.read (.load 1 false) []), [.t 45], none⟩,
      ⟨(some 47), (.pure (.fadd 2)), [.t 9], none⟩,
      ⟨(some 48), (.read (.load 1 false) []), [.t 47], none⟩,
      ⟨(some 49), (.pure (.fadd 3)), [.t 9], none⟩,
      ⟨(some 50), (.read (.load 1 false) []), [.t 49], none⟩,
      ⟨(some 51), (.pure .mov), [.t 1], none⟩,
      ⟨(some 52), (.pure (.build [(.int .i64 (Int.ofNat 0)), (.int .i64 (Int.ofNat 0)), (.int .i64 (Int.ofNat 0)), (.int .i64 (Int.ofNat 0)), (.int .i64 (Int.ofNat 0)), (.int .i64 (Int.ofNat 0)), (.int .i64 (Int.ofNat 0)), (.int .i64 (Int.ofNat 0)), (.int .i64 (Int.ofNat 0)), (.string ⟨⟨[]⟩⟩)] [(0, 1), (3, 1), (4, 1), (5, 1), (7, 1)])), [.c (.int .i64 (Int.ofNat 3)), .t 46, .t 48, .t 50, .t 51], none⟩,
      ⟨(some 53), (.alloc (.bslice [(.int .i64 (Int.ofNat 0)), (.int .i64 (Int.ofNat 0)), (.int .i64 (Int.ofNat 0)), (.int .i64 (Int.ofNat 0)), (.int .i64 (Int.ofNat 0)), (.int .i64 (Int.ofNat 0)), (.int .i64 (Int.ofNat 0)), (.int .i64 (Int.ofNat 0)), (.int .i64 (Int.ofNat 0)), (.string ⟨⟨[]⟩⟩)] [(0, 10)] 10 1)), [.t 52], none⟩,
      ⟨(some 54), (.eff (.app 10 88)), [.t 44, .t 53], none⟩,
      ⟨(some 6), (.pure .mov), [.t 54], none⟩] false)
def c48_15 : C := (.seq (.region [
      ⟨(some 35), (.pure .mov), [.t 0], none⟩,
      ⟨(some 36), (.pure .nilchk), [.t 35], none⟩,
      ⟨(some 37), (.pure (.fadd 0)), [.t 36], none⟩,
      ⟨(some 38), (.read (.load 1 false) []), [.t 37], none⟩,
      ⟨(some 39), (.pure (.iaddA 2 1)), [.t 8, .c (.int .i64 (Int.ofNat 1))], none⟩,
      ⟨(some 40), (.read (.load 1 false) []), [.t 39], none⟩,
      ⟨(some 41), (.call 75), [.t 38, .t 40], none⟩,
      ⟨(some 34), (.pure .mov), [.t 41], none⟩,
      ⟨(some 42), (.pure (.extract 0)), [.t 34], none⟩,
      ⟨(some 43), (.pure (.extract 1)), [.t 34], none⟩,
      ⟨(some 9), (.alloc (.alloc [(.int .i64 (Int.ofNat 0)), (.int .i64 (Int.ofNat 0)), (.int .i64 (Int.ofNat 0)), (.int .i64 (Int.ofNat 0)), (.string ⟨⟨[]⟩⟩)])), [], none⟩,
      ⟨none, (.eff (.store 5)), [.t 9, .t 42], none⟩,
      ⟨(some 10), (.pure .mov), [.t 43], none⟩] false) c48_18)
def c48_17 : C := (.exit 0)
def c48_16 : C := (.cond (.t 33) (.keep [6] c48_17)
    .skip)
def c48_14 : C := (.seq (.seq (.region [
      ⟨(some 30), (.pure (.iaddA 2 1)), [.t 8, .c (.int .i64 (Int.ofNat 0))], none⟩,
      ⟨(some 31), (.read (.load 1 false) []), [.t 30], none⟩,
      ⟨(some 32), (.pure .mov), [.t 1], none⟩,
      ⟨(some 33), (.pure (.bin .gtr)), [.t 31, .t 32], none⟩] false) c48_16) c48_15)
def c48_11 : C := (.seq (.block 1 (.seq (.region [
      ⟨(some 28), (.pure (.iaddS 2)), [.t 24, .t 26], none⟩,
      ⟨(some 29), (.read (.load 2 true) []), [.t 28], none⟩,
      ⟨(some 8), (.alloc (.alloc [(.int .i64 (Int.ofNat 0)), (.int .i64 (Int.ofNat 0))])), [], none⟩,
      ⟨none, (.eff (.store 2)), [.t 8, .t 29], none⟩] false) c48_14)) c48_13)
def c48_12 : C := (.exit 0)
def c48_10 : C := (.seq (.cond (.t 27) .skip
    (.keep [6] c48_12)) c48_11)
def c48_8 : C := (.seq (.seq (.region [
      ⟨(some 27), (.pure (.bin .lss)), [.t 26, .t 25], none⟩] false) c48_10) c48_9)
def c48_7 : C := (.block 0 (.loop (some [0, 1, 6, 24, 25, 26]) c48_8))
def c48_5 : C := (.seq (.seq (.region [
      ⟨(some 19), (.pure .mov), [.t 0], none⟩,
      ⟨(some 20), (.pure .nilchk), [.t 19], none⟩,
      ⟨(some 21), (.pure (.fadd 4)), [.t 20], none⟩,
      ⟨(some 22), (.read (.load 1 false) []), [.t 21], none⟩,
      ⟨(some 23), (.pure .mov), [.t 2], none⟩,
      ⟨(some 24), (.call 74), [.t 22, .t 23], none⟩,
      ⟨(some 25), (.pure .lenS), [.t 24], none⟩,
      ⟨(some 26), (.pure .mov), [.c (.int .i64 (Int.ofNat 0))], none⟩] false) c48_7) c48_6)
def c48_1 : C := (.seq (.region [
      ⟨(some 13), (.pure .mov), [.t 0], none⟩,
      ⟨(some 14), (.pure .nilchk), [.t 13], none⟩,
      ⟨(some 15), (.pure (.fadd 4)), [.t 14], none⟩,
      ⟨(some 16), (.read (.load 1 false) []), [.t 15], none⟩,
      ⟨(some 17), (.pure .mov), [.t 1], none⟩,
      ⟨(some 18), (.call 73), [.t 16, .t 17], none⟩] false) c48_5)
def c48_4 : C := .ret
def c48_3 : C := (.keep [6] c48_4)
def c48_2 : C := (.cond (.t 12) (.seq (.region [
      ⟨(some 6), (.pure .mov), [.c (.slice none 0 0)], none⟩] false) c48_3)
    .skip)
def c48_0 : C := (.seq (.seq (.region [
      ⟨(some 11), (.pure .mov), [.t 0], none⟩,
      ⟨(some 12), (.pure (.nilEq false .ptr)), [.t 11], none⟩] false) c48_2) c48_1)
def k48 : DFn := ⟨57, (.seq (.region [
      ⟨(some 6), (.pure .mov), [.c (.slice none 0 0)], none⟩] false) c48_0), [.tmp 6]⟩
theorem c48 : (match Tryz.prog.funcs[48]? with | some fn => compileFn Tryz.prog 4 [none, none, none, none, some [6], none, some [6], none, some [0, 1, 6, 24, 25, 26], none, none, some [6], none, none, none, none, some [6], none, none, some [6]] fn | none => none) = some k48 := by kernel_rfl


/-- (*tompion/oplog.Log).Append -/
def c49_28 : C := .ret
def c49_27 : C := (.keep [4, 5, 6] c49_28)
def c49_26 : C := (.seq (.region [
      ⟨(some 126), (.pure .mov), [.t 4], none⟩,
      ⟨(some 127), (.pure (.fadd 10)), [.t 10], none⟩,
      ⟨(some 128), (.read (.load 3 true) []), [.t 127], none⟩,
      ⟨(some 4), (.pure .mov), [.t 126], none⟩,
      ⟨none, (.eff (.store 3)), [.t 5, .t 128], none⟩,
      ⟨(some 6), (.pure .mov), [.c (.int .i64 (Int.ofNat 0))], none⟩] false) c49_27)
def c49_25 : C := (.seq (.region [
      ⟨(some 116), (.pure .mov), [.t 0], none⟩,
      ⟨(some 117), (.pure .mov), [.t 0], none⟩,
      ⟨(some 118), (.pure .nilchk), [.t 117], none⟩,
      ⟨(some 119), (.pure (.fadd 1)), [.t 118], none⟩,
      ⟨(some 120), (.read (.load 1 false) []), [.t 119], none⟩,
      ⟨(some 121), (.read (.load 19 true) []), [.t 10], none⟩,
      ⟨(some 122), (.alloc (.bslice [(.int .i64 (Int.ofNat 0)), (.int .i64 (Int.ofNat 0)), (.int .i64 (Int.ofNat 0)), (.int .i64 (Int.ofNat 0)), (.int .i64 (Int.ofNat 0)), (.int .i64 (Int.ofNat 0)), (.int .i64 (Int.ofNat 0)), (.int .i64 (Int.ofNat 0)), (.int .i64 (Int.ofNat 0)), (.string ⟨⟨[]⟩⟩), (.int .i64 (Int.ofNat 0)), (.int .i64 (Int.ofNat 0)), (.int .i64 (Int.ofNat 0)), (.int .i64 (Int.ofNat 0)), (.int .i64 (Int.ofNat 0)), (.int .i64 (Int.ofNat 0)), (.int .i64 (Int.ofNat 0)), (.int .i64 (Int.ofNat 0)), (.int .i64 (Int.ofNat 0))] [(0, 19)] 19 1)), [.t 121], none⟩,
      ⟨(some 123), (.eff (.app 19 160)), [.t 120, .t 122], none⟩,
      ⟨(some 124), (.pure .nilchk), [.t 116], none⟩,
      ⟨(some 125), (.pure (.fadd 1)), [.t 124], none⟩,
      ⟨none, (.eff (.store 1)), [.t 125, .t 123], none⟩] false) c49_26)
def c49_20 : C := (.keep [0, 4, 5, 10] c49_25)
def c49_24 : C := (.cond (.t 109) (.region [
      ⟨(some 110), (.pure .mov), [.t 0], none⟩,
      ⟨(some 111), (.pure .nilchk), [.t 110], none⟩,
      ⟨(some 112), (.pure (.fadd 3)), [.t 111], none⟩,
      ⟨(some 113), (.read (.load 1 false) []), [.t 112], none⟩,
      ⟨(some 114), (.read (.load 2 true) []), [.t 11], none⟩,
      ⟨(some 115), (.pure .mov), [.t 4], none⟩,
      ⟨none, (.eff (.mupd (.agg [.i, .i]))), [.t 113, .t 114, .t 115], none⟩] false)
    .skip)
def c49_23 : C := (.seq (.region [
      ⟨(some 108), (.pure .mov), [.t 13], none⟩,
      ⟨(some 109), (.pure (.un .not)), [.t 108], none⟩] false) c49_24)
def c49_22 : C := (.cond (.t 98) (.seq (.region [
      ⟨(some 100), (.pure .mov), [.t 0], none⟩,
      ⟨(some 101), (.pure .nilchk), [.t 100], none⟩,
      ⟨(some 102), (.pure (.fadd 3)), [.t 101], none⟩,
      ⟨(some 103), (.read (.load 1 false) []), [.t 102], none⟩,
      ⟨(some 104), (.read (.load 2 true) []), [.t 11], none⟩,
      ⟨(some 105), (.read (.lookup (.agg [.i, .i]) (.int .i64 (Int.ofNat 0)) true) []), [.t 103, .t 104], none⟩,
      ⟨(some 99), (.pure .mov), [.t 105], none⟩,
      ⟨(some 106), (.pure (.extract 0)), [.t 99], none⟩,
      ⟨(some 107), (.pure (.extract 1)), [.t 99], none⟩,
      ⟨(some 12), (.pure .mov), [.t 106], none⟩,
      ⟨(some 13), (.pure .mov), [.t 107], none⟩] false) c49_23)
    .skip)
def c49_21 : C := (.seq (.region [
      ⟨(some 91), (.pure (.fadd 0)), [.t 3], none⟩,
      ⟨(some 92), (.read (.load 1 false) []), [.t 91], none⟩,
      ⟨(some 93), (.pure (.bin .eql)), [.t 92, .c (.int .i64 (Int.ofNat 1))], none⟩,
      ⟨(some 94), (.pure .mov), [.t 93], none⟩,
      ⟨(some 95), (.pure (.fadd 0)), [.t 3], (some (94, false))⟩,
      ⟨(some 96), (.read (.load 1 false) []), [.t 95], (some (94, false))⟩,
      ⟨(some 97), (.pure (.bin .eql)), [.t 96, .c (.int .i64 (Int.ofNat 2))], (some (94, false))⟩,
      ⟨(some 98), (.pure .pick), [.t 94, .c (.bool true), .t 97], none⟩] false) c49_22)
def c49_19 : C := (.seq (.seq (.region [
      ⟨(some 86), (.pure (.fadd 1)), [.t 3], none⟩,
      ⟨(some 87), (.read (.load 1 false) []), [.t 86], none⟩,
      ⟨(some 88), (.pure (.fadd 2)), [.t 3], none⟩,
      ⟨(some 89), (.read (.load 1 false) []), [.t 88], none⟩,
      ⟨(some 90), (.pure (.build [(.int .i64 (Int.ofNat 0)), (.int .i64 (Int.ofNat 0))] [(0, 1), (1, 1)])), [.t 87, .t 89], none⟩,
      ⟨(some 11), (.alloc (.alloc [(.int .i64 (Int.ofNat 0)), (.int .i64 (Int.ofNat 0))])), [], none⟩,
      ⟨none, (.eff (.store 2)), [.t 11, .t 90], none⟩] false) c49_21) c49_20)
def c49_15 : C := (.keep [0, 3, 4, 5, 10] c49_19)
def c49_18 : C := (.cond (.t 72) (.region [
      ⟨(some 73), (.pure .mov), [.t 4], none⟩,
      ⟨(some 74), (.pure (.fadd 1)), [.t 8], none⟩,
      ⟨(some 75), (.read (.load 1 false) []), [.t 74], none⟩,
      ⟨(some 76), (.pure (.fadd 3)), [.t 3], none⟩,
      ⟨(some 77), (.read (.load 1 false) []), [.t 76], none⟩,
      ⟨(some 78), (.pure (.fadd 4)), [.t 3], none⟩,
      ⟨(some 79), (.read (.load 1 false) []), [.t 78], none⟩,
      ⟨(some 80), (.pure (.fadd 5)), [.t 3], none⟩,
      ⟨(some 81), (.read (.load 1 false) []), [.t 80], none⟩,
      ⟨(some 82), (.pure (.fadd 7)), [.t 3], none⟩,
      ⟨(some 83), (.read (.load 1 false) []), [.t 82], none⟩,
      ⟨(some 84), (.pure (.build [(.int .i64 (Int.ofNat 0)), (.int .i64 (Int.ofNat 0)), (.int .i64 (Int.ofNat 0)), (.int .i64 (Int.ofNat 0)), (.int .i64 (Int.ofNat 0)), (.int .i64 (Int.ofNat 0))] [(0, 1), (1, 1), (2, 1), (3, 1), (4, 1), (5, 1)])), [.t 73, .t 75, .t 77, .t 79, .t 81, .t 83], none⟩,
      ⟨(some 85), (.pure (.fadd 13)), [.t 10], none⟩,
      ⟨none, (.eff (.store 6)), [.t 85, .t 84], none⟩] false)
    .skip)
def c49_17 : C := (.seq (.region [
      ⟨(some 70), (.pure (.fadd 0)), [.t 3], none⟩,
      ⟨(some 71), (.read (.load 1 false) []), [.t 70], none⟩,
      ⟨(some 72), (.pure (.bin .eql)), [.t 71, .c (.int .i64 (Int.ofNat 3))], none⟩] false) c49_18)
def c49_16 : C := (.cond (.t 64) (.seq (.region [
      ⟨(some 65), (.pure .mov), [.t 0], none⟩,
      ⟨(some 66), (.pure .mov), [.t 4], none⟩,
      ⟨(some 67), (.pure (.fadd 3)), [.t 3], none⟩,
      ⟨(some 68), (.read (.load 1 false) []), [.t 67], none⟩,
      ⟨(some 69), (.call 78), [.t 65, .t 66, .t 68], none⟩] false) c49_17)
    .skip)
def c49_14 : C := (.seq (.seq (.region [
      ⟨(some 58), (.pure (.fadd 10)), [.t 10], none⟩,
      ⟨(some 59), (.pure (.fadd 0)), [.t 58], none⟩,
      ⟨(some 60), (.read (.load 1 false) []), [.t 59], none⟩,
      ⟨(some 61), (.pure (.bin .eql)), [.t 60, .c (.int .i64 (Int.ofNat 0))], none⟩,
      ⟨(some 62), (.pure .mov), [.t 61], none⟩,
      ⟨(some 63), (.pure .mov), [.t 7], (some (62, true))⟩,
      ⟨(some 64), (.pure .pick), [.t 62, .t 63, .c (.bool false)], none⟩] false) c49_16) c49_15)
def c49_13 : C := (.seq (.region [
      ⟨(some 50), (.read (.load 10 true) [7]), [.t 3], none⟩,
      ⟨(some 51), (.pure .mov), [.t 0], none⟩,
      ⟨(some 52), (.pure .nilchk), [.t 51], none⟩,
      ⟨(some 53), (.pure (.fadd 0)), [.t 52], none⟩,
      ⟨(some 54), (.read (.load 1 false) []), [.t 53], none⟩,
      ⟨(some 55), (.read (.load 10 true) []), [.t 3], none⟩,
      ⟨(some 56), (.call 77), [.t 54, .t 55], none⟩,
      ⟨(some 57), (.pure (.build [(.int .i64 (Int.ofNat 0)), (.int .i64 (Int.ofNat 0)), (.int .i64 (Int.ofNat 0)), (.int .i64 (Int.ofNat 0)), (.int .i64 (Int.ofNat 0)), (.int .i64 (Int.ofNat 0)), (.int .i64 (Int.ofNat 0)), (.int .i64 (Int.ofNat 0)), (.int .i64 (Int.ofNat 0)), (.string ⟨⟨[]⟩⟩), (.int .i64 (Int.ofNat 0)), (.int .i64 (Int.ofNat 0)), (.int .i64 (Int.ofNat 0)), (.int .i64 (Int.ofNat 0)), (.int .i64 (Int.ofNat 0)), (.int .i64 (Int.ofNat 0)), (.int .i64 (Int.ofNat 0)), (.int .i64 (Int.ofNat 0)), (.int .i64 (Int.ofNat 0))] [(0, 10), (10, 3)])), [.t 50, .t 56], none⟩,
      ⟨(some 10), (.alloc (.alloc [(.int .i64 (Int.ofNat 0)), (.int .i64 (Int.ofNat 0)), (.int .i64 (Int.ofNat 0)), (.int .i64 (Int.ofNat 0)), (.int .i64 (Int.ofNat 0)), (.int .i64 (Int.ofNat 0)), (.int .i64 (Int.ofNat 0)), (.int .i64 (Int.ofNat 0)), (.int .i64 (Int.ofNat 0)), (.string ⟨⟨[]⟩⟩), (.int .i64 (Int.ofNat 0)), (.int .i64 (Int.ofNat 0)), (.int .i64 (Int.ofNat 0)), (.int .i64 (Int.ofNat 0)), (.int .i64 (Int.ofNat 0)), (.int .i64 (Int.ofNat 0)), (.int .i64 (Int.ofNat 0)), (.int .i64 (Int.ofNat 0)), (.int .i64 (Int.ofNat 0))])), [], none⟩,
      ⟨none, (.eff (.store 19)), [.t 10, .t 57], none⟩] true) c49_14)
def c49_12 : C := (.seq (.region [
      ⟨(some 41), (.pure .mov), [.t 0], none⟩,
      ⟨(some 42), (.pure .nilchk), [.t 41], none⟩,
      ⟨(some 43), (.pure (.fadd 0)), [.t 42], none⟩,
      ⟨(some 44), (.read (.load 1 false) []), [.t 43], none⟩,
      ⟨(some 45), (.pure (.fadd 3)), [.t 3], none⟩,
      ⟨(some 46), (.read (.load 1 false) []), [.t 45], none⟩,
      ⟨(some 47), (.call 75), [.t 44, .t 46], none⟩,
      ⟨(some 40), (.pure .mov), [.t 47], none⟩,
      ⟨(some 48), (.pure (.extract 0)), [.t 40], none⟩,
      ⟨(some 49), (.pure (.extract 1)), [.t 40], none⟩,
      ⟨(some 8), (.alloc (.alloc [(.int .i64 (Int.ofNat 0)), (.int .i64 (Int.ofNat 0)), (.int .i64 (Int.ofNat 0)), (.int .i64 (Int.ofNat 0)), (.string ⟨⟨[]⟩⟩)])), [], none⟩,
      ⟨none, (.eff (.store 5)), [.t 8, .t 48], none⟩,
      ⟨(some 9), (.pure .mov), [.t 49], none⟩] false) c49_13)
def c49_11 : C := (.seq (.region [
      ⟨(some 38), (.pure .mov), [.t 0], none⟩,
      ⟨(some 39), (.call 76), [.t 38, .t 3], none⟩,
      ⟨(some 7), (.pure .mov), [.t 39], none⟩] false) c49_12)
def c49_1 : C := (.seq (.region [
      ⟨(some 32), (.pure .mov), [.t 0], none⟩,
      ⟨(some 33), (.pure .nilchk), [.t 32], none⟩,
      ⟨(some 34), (.pure (.fadd 1)), [.t 33], none⟩,
      ⟨(some 35), (.read (.load 1 false) []), [.t 34], none⟩,
      ⟨(some 36), (.pure .lenS), [.t 35], none⟩,
      ⟨(some 37), (.pure (.bin .add)), [.t 36, .c (.int .i64 (Int.ofNat 1))], none⟩,
      ⟨(some 4), (.pure .mov), [.t 37], none⟩] false) c49_11)
def c49_4 : C := .ret
def c49_3 : C := (.keep [4, 5, 6] c49_4)
def c49_7 : C := .ret
def c49_6 : C := (.keep [4, 5, 6] c49_7)
def c49_10 : C := .ret
def c49_9 : C := (.keep [4, 5, 6] c49_10)
def c49_8 : C := (.cond (.t 26) (.seq (.region [
      ⟨(some 31), (.read (.load 3 true) []), [.t 5], none⟩,
      ⟨(some 4), (.pure .mov), [.c (.int .i64 (Int.ofNat 0))], none⟩,
      ⟨none, (.eff (.store 3)), [.t 5, .t 31], none⟩,
      ⟨(some 6), (.pure .mov), [.c (.int .i64 (Int.ofNat 15))], none⟩] false) c49_9)
    .skip)
def c49_5 : C := (.cond (.t 18) (.seq (.region [
      ⟨(some 25), (.read (.load 3 true) []), [.t 5], none⟩,
      ⟨(some 4), (.pure .mov), [.c (.int .i64 (Int.ofNat 0))], none⟩,
      ⟨none, (.eff (.store 3)), [.t 5, .t 25], none⟩,
      ⟨(some 6), (.pure .mov), [.c (.int .i64 (Int.ofNat 5))], none⟩] false) c49_6)
    (.seq (.region [
      ⟨(some 27), (.pure (.fadd 9)), [.t 3], none⟩,
      ⟨(some 28), (.read (.load 1 false) []), [.t 27], none⟩,
      ⟨(some 29), (.pure .lenStr), [.t 28], none⟩,
      ⟨(some 30), (.pure (.bin .gtr)), [.t 29, .c (.int .i64 (Int.ofNat 256))], none⟩,
      ⟨(some 26), (.pure .mov), [.t 30], none⟩] false) c49_8))
def c49_2 : C := (.cond (.t 14) (.seq (.region [
      ⟨(some 17), (.read (.load 3 true) []), [.t 5], none⟩,
      ⟨(some 4), (.pure .mov), [.c (.int .i64 (Int.ofNat 0))], none⟩,
      ⟨none, (.eff (.store 3)), [.t 5, .t 17], none⟩,
      ⟨(some 6), (.pure .mov), [.c (.int .i64 (Int.ofNat 12))], none⟩] false) c49_3)
    (.seq (.region [
      ⟨(some 19), (.pure .mov), [.t 0], none⟩,
      ⟨(some 20), (.pure .nilchk), [.t 19], none⟩,
      ⟨(some 21), (.pure (.fadd 1)), [.t 20], none⟩,
      ⟨(some 22), (.read (.load 1 false) []), [.t 21], none⟩,
      ⟨(some 23), (.pure .lenS), [.t 22], none⟩,
      ⟨(some 24), (.pure (.bin .geq)), [.t 23, .c (.int .i64 (Int.ofNat 2000))], none⟩,
      ⟨(some 18), (.pure .mov), [.t 24], none⟩] false) c49_5))
def c49_0 : C := (.seq (.block 0 (.seq (.region [
      ⟨(some 15), (.pure .mov), [.t 0], none⟩,
      ⟨(some 16), (.pure (.nilEq false .ptr)), [.t 15], none⟩,
      ⟨(some 14), (.pure .mov), [.t 16], none⟩] false) c49_2)) c49_1)
def k49 : DFn := ⟨129, (.seq (.region [
      ⟨(some 3), (.alloc .box), [.t 1], none⟩,
      ⟨(some 4), (.pure .mov), [.c (.int .i64 (Int.ofNat 0))], none⟩,
      ⟨(some 5), (.alloc (.alloc [(.int .i64 (Int.ofNat 0)), (.int .i64 (Int.ofNat 0)), (.int .i64 (Int.ofNat 0))])), [], none⟩,
      ⟨(some 6), (.pure .mov), [.c (.int .i64 (Int.ofNat 0))], none⟩] false) c49_0), [.tmp 4, .cell 5 3 true, .tmp 6]⟩
theorem c49 : (match Tryz.prog.funcs[49]? with | some fn => compileFn Tryz.prog 4 [none, none, none, none, some [4, 5, 6], none, none, some [4, 5, 6], none, none, some [4, 5, 6], none, none, none, none, some [0, 3, 4, 5, 10], none, none, none, some [0, 4, 5, 10], none, none, none, none, none, none, some [4, 5, 6]] fn | none => none) = some k49 := by kernel_rfl


/-- (*tompion/node.Node).commit -/
def c50_22 : C := .ret
def c50_21 : C := (.keep [2] c50_22)
def c50_20 : C := (.seq (.region [
      ⟨(some 56), (.pure .mov), [.t 2], none⟩,
      ⟨(some 57), (.pure .mov), [.t 0], none⟩,
      ⟨(some 58), (.pure .mov), [.t 0], none⟩,
      ⟨(some 59), (.pure .nilchk), [.t 58], none⟩,
      ⟨(some 60), (.pure (.fadd 17)), [.t 59], none⟩,
      ⟨(some 61), (.read (.load 1 false) []), [.t 60], none⟩,
      ⟨(some 62), (.call 28), [.t 57, .c (.int .i64 (Int.ofNat 6)), .t 61], none⟩,
      ⟨(some 63), (.eff (.app 28 264)), [.t 56, .t 62], none⟩,
      ⟨(some 2), (.pure .mov), [.t 63], none⟩] false) c50_21)
def c50_19 : C := (.seq (.region [
      ⟨(some 49), (.pure .mov), [.t 0], none⟩,
      ⟨(some 50), (.pure .mov), [.t 0], none⟩,
      ⟨(some 51), (.pure .nilchk), [.t 50], none⟩,
      ⟨(some 52), (.pure (.fadd 17)), [.t 51], none⟩,
      ⟨(some 53), (.read (.load 1 false) []), [.t 52], none⟩,
      ⟨(some 54), (.pure .nilchk), [.t 49], none⟩,
      ⟨(some 55), (.pure (.fadd 20)), [.t 54], none⟩,
      ⟨none, (.eff (.store 1)), [.t 55, .t 53], none⟩] false) c50_20)
def c50_10 : C := (.keep [0, 2] c50_19)
def c50_18 : C := .skip
def c50_13 : C := (.keep [0, 2, 3] c50_18)
def c50_17 : C := (.region [
      ⟨(some 42), (.pure .mov), [.t 3], none⟩,
      ⟨(some 43), (.pure (.bin .add)), [.t 42, .c (.int .i64 (Int.ofNat 1))], none⟩,
      ⟨(some 3), (.pure .mov), [.t 43], none⟩] false)
def c50_14 : C := (.seq (.block 1 (.region [
      ⟨(some 44), (.pure .mov), [.t 2], none⟩,
      ⟨(some 45), (.pure .mov), [.t 0], none⟩,
      ⟨(some 46), (.pure .mov), [.t 3], none⟩,
      ⟨(some 47), (.call 79), [.t 45, .t 46], none⟩,
      ⟨(some 48), (.eff (.app 28 264)), [.t 44, .t 47], none⟩,
      ⟨(some 2), (.pure .mov), [.t 48], none⟩] false)) c50_17)
def c50_16 : C := (.exit 0)
def c50_15 : C := (.cond (.t 41) .skip
    (.keep [0, 2] c50_16))
def c50_12 : C := (.seq (.seq (.seq (.region [
      ⟨(some 36), (.pure .mov), [.t 3], none⟩,
      ⟨(some 37), (.pure .mov), [.t 0], none⟩,
      ⟨(some 38), (.pure .nilchk), [.t 37], none⟩,
      ⟨(some 39), (.pure (.fadd 17)), [.t 38], none⟩,
      ⟨(some 40), (.read (.load 1 false) []), [.t 39], none⟩,
      ⟨(some 41), (.pure (.bin .leq)), [.t 36, .t 40], none⟩] false) c50_15) c50_14) c50_13)
def c50_11 : C := (.block 0 (.loop (some [0, 2, 3]) c50_12))
def c50_6 : C := (.seq (.seq (.region [
      ⟨(some 31), (.pure .mov), [.t 0], none⟩,
      ⟨(some 32), (.pure .nilchk), [.t 31], none⟩,
      ⟨(some 33), (.pure (.fadd 20)), [.t 32], none⟩,
      ⟨(some 34), (.read (.load 1 false) []), [.t 33], none⟩,
      ⟨(some 35), (.pure (.bin .add)), [.t 34, .c (.int .i64 (Int.ofNat 1))], none⟩,
      ⟨(some 3), (.pure .mov), [.t 35], none⟩] false) c50_11) c50_10)
def c50_9 : C := .ret
def c50_8 : C := (.keep [2] c50_9)
def c50_7 : C := (.cond (.t 30) (.seq (.region [
      ⟨(some 2), (.pure .mov), [.c (.slice none 0 0)], none⟩] false) c50_8)
    .skip)
def c50_5 : C := (.seq (.seq (.region [
      ⟨(some 22), (.pure .mov), [.t 0], none⟩,
      ⟨(some 23), (.pure .nilchk), [.t 22], none⟩,
      ⟨(some 24), (.pure (.fadd 20)), [.t 23], none⟩,
      ⟨(some 25), (.read (.load 1 false) []), [.t 24], none⟩,
      ⟨(some 26), (.pure .mov), [.t 0], none⟩,
      ⟨(some 27), (.pure .nilchk), [.t 26], none⟩,
      ⟨(some 28), (.pure (.fadd 17)), [.t 27], none⟩,
      ⟨(some 29), (.read (.load 1 false) []), [.t 28], none⟩,
      ⟨(some 30), (.pure (.bin .geq)), [.t 25, .t 29], none⟩] false) c50_7) c50_6)
def c50_1 : C := (.seq (.region [
      ⟨(some 14), (.pure .mov), [.t 0], none⟩,
      ⟨(some 15), (.pure .mov), [.t 0], none⟩,
      ⟨(some 16), (.pure .nilchk), [.t 15], none⟩,
      ⟨(some 17), (.pure (.fadd 9)), [.t 16], none⟩,
      ⟨(some 18), (.read (.load 1 false) []), [.t 17], none⟩,
      ⟨(some 19), (.call 52), [.t 18], none⟩,
      ⟨(some 20), (.pure .nilchk), [.t 14], none⟩,
      ⟨(some 21), (.pure (.fadd 17)), [.t 20], none⟩,
      ⟨none, (.eff (.store 1)), [.t 21, .t 19], none⟩] false) c50_5)
def c50_4 : C := .ret
def c50_3 : C := (.keep [2] c50_4)
def c50_2 : C := (.cond (.t 13) (.seq (.region [
      ⟨(some 2), (.pure .mov), [.c (.slice none 0 0)], none⟩] false) c50_3)
    .skip)
def c50_0 : C := (.seq (.seq (.region [
      ⟨(some 4), (.pure .mov), [.t 0], none⟩,
      ⟨(some 5), (.call 59), [.t 4], none⟩,
      ⟨(some 6), (.pure (.un .not)), [.t 5], none⟩,
      ⟨(some 7), (.pure .mov), [.t 6], none⟩,
      ⟨(some 8), (.pure .mov), [.t 0], (some (7, false))⟩,
      ⟨(some 9), (.pure .nilchk), [.t 8], (some (7, false))⟩,
      ⟨(some 10), (.pure (.fadd 15)), [.t 9], (some (7, false))⟩,
      ⟨(some 11), (.read (.load 1 false) []), [.t 10], (some (7, false))⟩,
      ⟨(some 12), (.pure (.un .not)), [.t 11], (some (7, false))⟩,
      ⟨(some 13), (.pure .pick), [.t 7, .c (.bool true), .t 12], none⟩] false) c50_2) c50_1)
def k50 : DFn := ⟨64, (.seq (.region [
      ⟨(some 2), (.pure .mov), [.c (.slice none 0 0)], none⟩] false) c50_0), [.tmp 2]⟩
theorem c50 : (match Tryz.prog.funcs[50]? with | some fn => compileFn Tryz.prog 4 [none, none, none, none, some [2], none, none, none, none, some [2], some [0, 2], none, some [0, 2, 3], none, none, some [0, 2], none, none, none, some [2]] fn | none => none) = some k50 := by kernel_rfl


/-- (*tompion/node.Node).next -/
def c51_7 : C := .ret
def c51_6 : C := (.keep [6] c51_7)
def c51_1 : C := (.seq (.region [
      ⟨(some 6), (.pure .mov), [.c (.slice none 0 0)], none⟩] false) c51_6)
def c51_5 : C := .ret
def c51_4 : C := (.keep [6] c51_5)
def c51_3 : C := (.cond (.t 21) (.seq (.region [
      ⟨(some 22), (.pure .mov), [.t 0], none⟩,
      ⟨(some 23), (.read (.load 2 true) []), [.t 7], none⟩,
      ⟨(some 24), (.pure .mov), [.t 1], none⟩,
      ⟨(some 25), (.pure .mov), [.t 2], none⟩,
      ⟨(some 26), (.call 54), [.t 22, .t 23, .t 24, .t 25], none⟩,
      ⟨(some 27), (.alloc (.bslice [(.int .i64 (Int.ofNat 0)), (.int .i64 (Int.ofNat 0)), (.int .i64 (Int.ofNat 0)), (.int .i64 (Int.ofNat 0)), (.int .i64 (Int.ofNat 0)), (.int .i64 (Int.ofNat 0)), (.int .i64 (Int.ofNat 0)), (.int .i64 (Int.ofNat 0)), (.int .i64 (Int.ofNat 0)), (.int .i64 (Int.ofNat 0)), (.bool false), (.int .i64 (Int.ofNat 0)), (.int .i64 (Int.ofNat 0)), (.int .i64 (Int.ofNat 0)), (.int .i64 (Int.ofNat 0)), (.int .i64 (Int.ofNat 0)), (.int .i64 (Int.ofNat 0)), (.int .i64 (Int.ofNat 0)), (.int .i64 (Int.ofNat 0)), (.int .i64 (Int.ofNat 0)), (.string ⟨⟨[]⟩⟩), (.int .i64 (Int.ofNat 0)), (.int .i64 (Int.ofNat 0)), (.int .i64 (Int.ofNat 0)), (.int .i64 (Int.ofNat 0)), (.slice none 0 0), (.slice none 0 0), (.int .i64 (Int.ofNat 0))] [(0, 28)] 28 1)), [.t 26], none⟩,
      ⟨(some 6), (.pure .mov), [.t 27], none⟩] false) c51_4)
    .skip)
def c51_2 : C := (.seq (.region [
      ⟨(some 21), (.pure .mov), [.t 8], none⟩] false) c51_3)
def c51_0 : C := (.seq (.seq (.region [
      ⟨(some 10), (.pure .mov), [.t 0], none⟩,
      ⟨(some 11), (.pure .nilchk), [.t 10], none⟩,
      ⟨(some 12), (.pure (.fadd 10)), [.t 11], none⟩,
      ⟨(some 13), (.read (.load 2 true) []), [.t 12], none⟩,
      ⟨(some 14), (.pure .mov), [.t 0], none⟩,
      ⟨(some 15), (.pure .nilchk), [.t 14], none⟩,
      ⟨(some 16), (.pure (.fadd 7)), [.t 15], none⟩,
      ⟨(some 17), (.read (.load 2 true) []), [.t 16], none⟩,
      ⟨(some 18), (.call 80), [.t 13, .t 17], none⟩,
      ⟨(some 9), (.pure .mov), [.t 18], none⟩,
      ⟨(some 19), (.pure (.extract 0)), [.t 9], none⟩,
      ⟨(some 20), (.pure (.extract 1)), [.t 9], none⟩,
      ⟨(some 7), (.alloc (.alloc [(.int .i64 (Int.ofNat 0)), (.int .i64 (Int.ofNat 0))])), [], none⟩,
      ⟨none, (.eff (.store 2)), [.t 7, .t 19], none⟩,
      ⟨(some 8), (.pure .mov), [.t 20], none⟩] false) c51_2) c51_1)
def k51 : DFn := ⟨28, (.seq (.region [
      ⟨(some 6), (.pure .mov), [.c (.slice none 0 0)], none⟩] false) c51_0), [.tmp 6]⟩
theorem c51 : (match Tryz.prog.funcs[51]? with | some fn => compileFn Tryz.prog 4 [none, none, none, none, none, some [6], none, some [6]] fn | none => none) = some k51 := by kernel_rfl


/-- (*tompion/oplog.Log).Len -/
def c52_6 : C := .ret
def c52_5 : C := (.keep [2] c52_6)
def c52_1 : C := (.seq (.region [
      ⟨(some 5), (.pure .mov), [.t 0], none⟩,
      ⟨(some 6), (.pure .nilchk), [.t 5], none⟩,
      ⟨(some 7), (.pure (.fadd 1)), [.t 6], none⟩,
      ⟨(some 8), (.read (.load 1 false) []), [.t 7], none⟩,
      ⟨(some 9), (.pure .lenS), [.t 8], none⟩,
      ⟨(some 2), (.pure .mov), [.t 9], none⟩] false) c52_5)
def c52_4 : C := .ret
def c52_3 : C := (.keep [2] c52_4)
def c52_2 : C := (.cond (.t 4) (.seq (.region [
      ⟨(some 2), (.pure .mov), [.c (.int .i64 (Int.ofNat 0))], none⟩] false) c52_3)
    .skip)
def c52_0 : C := (.seq (.seq (.region [
      ⟨(some 3), (.pure .mov), [.t 0], none⟩,
      ⟨(some 4), (.pure (.nilEq false .ptr)), [.t 3], none⟩] false) c52_2) c52_1)
def k52 : DFn := ⟨10, (.seq (.region [
      ⟨(some 2), (.pure .mov), [.c (.int .i64 (Int.ofNat 0))], none⟩] false) c52_0), [.tmp 2]⟩
theorem c52 : (match Tryz.prog.funcs[52]? with | some fn => compileFn Tryz.prog 4 [none, none, none, none, some [2], none, some [2]] fn | none => none) = some k52 := by kernel_rfl


/-- tompion/config.Ahead -/
def c53_2 : C := .ret
def c53_1 : C := (.keep [4, 5] c53_2)
def c53_0 : C := (.seq (.region [
      ⟨(some 6), (.read (.load 2 true) []), [.t 2], none⟩,
      ⟨(some 7), (.read (.load 2 true) []), [.t 3], none⟩,
      ⟨(some 8), (.call 22), [.t 6, .t 7], none⟩,
      ⟨(some 9), (.pure (.bin .sub)), [.t 8, .c (.int .i64 (Int.ofNat 1))], none⟩,
      ⟨(some 10), (.call 81), [.t 2, .t 9], none⟩,
      ⟨(some 11), (.pure (.extract 0)), [.t 10], none⟩,
      ⟨(some 12), (.pure (.extract 1)), [.t 10], none⟩,
      ⟨none, (.eff (.store 2)), [.t 4, .t 11], none⟩,
      ⟨(some 5), (.pure .mov), [.t 12], none⟩] false) c53_1)
def k53 : DFn := ⟨13, (.seq (.region [
      ⟨(some 2), (.alloc .box), [.t 0], none⟩,
      ⟨(some 3), (.alloc .box), [.t 1], none⟩,
      ⟨(some 4), (.alloc (.alloc [(.int .i64 (Int.ofNat 0)), (.int .i64 (Int.ofNat 0))])), [], none⟩,
      ⟨(some 5), (.pure .mov), [.c (.bool false)], none⟩] false) c53_0), [.cell 4 2 true, .tmp 5]⟩
theorem c53 : (match Tryz.prog.funcs[53]? with | some fn => compileFn Tryz.prog 4 [none, none, some [4, 5]] fn | none => none) = some k53 := by kernel_rfl


/-- (*tompion/node.Node).put -/
def c58_7 : C := .ret
def c58_6 : C := (.keep [4, 5] c58_7)
def c58_1 : C := (.seq (.region [
      ⟨(some 21), (.pure .mov), [.t 0], none⟩,
      ⟨(some 22), (.call 50), [.t 21], none⟩,
      ⟨(some 23), (.pure .mov), [.t 0], none⟩,
      ⟨(some 24), (.call 27), [.t 23], none⟩,
      ⟨(some 25), (.eff (.app 28 264)), [.t 22, .t 24], none⟩,
      ⟨(some 4), (.pure .mov), [.t 25], none⟩,
      ⟨(some 5), (.pure .mov), [.c (.bool true)], none⟩] false) c58_6)
def c58_5 : C := .ret
def c58_4 : C := (.keep [4, 5] c58_5)
def c58_3 : C := (.cond (.t 20) (.seq (.region [
      ⟨(some 4), (.pure .mov), [.c (.slice none 0 0)], none⟩,
      ⟨(some 5), (.pure .mov), [.c (.bool false)], none⟩] false) c58_4)
    .skip)
def c58_2 : C := (.seq (.region [
      ⟨(some 19), (.pure .mov), [.t 8], none⟩,
      ⟨(some 20), (.pure (.bin .neq)), [.t 19, .c (.int .i64 (Int.ofNat 0))], none⟩] false) c58_3)
def c58_0 : C := (.seq (.seq (.region [
      ⟨(some 10), (.pure .mov), [.t 0], none⟩,
      ⟨(some 11), (.pure .nilchk), [.t 10], none⟩,
      ⟨(some 12), (.pure (.fadd 9)), [.t 11], none⟩,
      ⟨(some 13), (.read (.load 1 false) []), [.t 12], none⟩,
      ⟨(some 14), (.read (.load 10 true) []), [.t 3], none⟩,
      ⟨(some 15), (.call 49), [.t 13, .t 14], none⟩,
      ⟨(some 9), (.pure .mov), [.t 15], none⟩,
      ⟨(some 16), (.pure (.extract 0)), [.t 9], none⟩,
      ⟨(some 17), (.pure (.extract 1)), [.t 9], none⟩,
      ⟨(some 18), (.pure (.extract 2)), [.t 9], none⟩,
      ⟨(some 7), (.alloc (.alloc [(.int .i64 (Int.ofNat 0)), (.int .i64 (Int.ofNat 0)), (.int .i64 (Int.ofNat 0))])), [], none⟩,
      ⟨(some 6), (.pure .mov), [.t 16], none⟩,
      ⟨none, (.eff (.store 3)), [.t 7, .t 17], none⟩,
      ⟨(some 8), (.pure .mov), [.t 18], none⟩] false) c58_2) c58_1)
def k58 : DFn := ⟨26, (.seq (.region [
      ⟨(some 3), (.alloc .box), [.t 1], none⟩,
      ⟨(some 4), (.pure .mov), [.c (.slice none 0 0)], none⟩,
      ⟨(some 5), (.pure .mov), [.c (.bool false)], none⟩] false) c58_0), [.tmp 4, .tmp 5]⟩
theorem c58 : (match Tryz.prog.funcs[58]? with | some fn => compileFn Tryz.prog 4 [none, none, none, none, none, some [4, 5], none, some [4, 5]] fn | none => none) = some k58 := by kernel_rfl


/-- (*tompion/node.Node).tail -/
def c59_2 : C := .ret
def c59_1 : C := (.keep [2] c59_2)
def c59_0 : C := (.seq (.region [
      ⟨(some 3), (.pure .mov), [.t 0], none⟩,
      ⟨(some 4), (.call 24), [.t 3], none⟩,
      ⟨(some 5), (.pure .mov), [.t 4], none⟩,
      ⟨(some 6), (.pure .mov), [.t 0], (some (5, true))⟩,
      ⟨(some 7), (.call 46), [.t 6], (some (5, true))⟩,
      ⟨(some 8), (.pure .mov), [.t 0], (some (5, true))⟩,
      ⟨(some 9), (.pure .nilchk), [.t 8], (some (5, true))⟩,
      ⟨(some 10), (.pure (.fadd 10)), [.t 9], (some (5, true))⟩,
      ⟨(some 11), (.pure (.fadd 1)), [.t 10], (some (5, true))⟩,
      ⟨(some 12), (.read (.load 1 false) [4]), [.t 11], (some (5, true))⟩,
      ⟨(some 13), (.pure .lenS), [.t 12], (some (5, true))⟩,
      ⟨(some 14), (.pure (.bin .sub)), [.t 13, .c (.int .i64 (Int.ofNat 1))], (some (5, true))⟩,
      ⟨(some 15), (.pure (.bin .eql)), [.t 7, .t 14], (some (5, true))⟩,
      ⟨(some 16), (.pure .pick), [.t 5, .t 15, .c (.bool false)], none⟩,
      ⟨(some 2), (.pure .mov), [.t 16], none⟩] true) c59_1)
def k59 : DFn := ⟨17, (.seq (.region [
      ⟨(some 2), (.pure .mov), [.c (.bool false)], none⟩] false) c59_0), [.tmp 2]⟩
theorem c59 : (match Tryz.prog.funcs[59]? with | some fn => compileFn Tryz.prog 4 [none, none, some [2]] fn | none => none) = some k59 := by kernel_rfl
theorem e59 (tb : Nat → Option DFn) (nv : CallF) (a0 : Value) (H : Heap) (Q : Value → Heap → Prop) : wFn tb nv k59 [a0] H Q = (
    Ev tb nv 24 [a0] H fun x0 H1 =>
    asB x0 fun b2 => onB b2 (Ev tb nv 46 [a0] H1 fun x3 H4 =>
    wP .nilchk [a0] fun x5 =>
    wP (.fadd 10) [x5] fun x6 =>
    wP (.fadd 1) [x6] fun x7 =>
    wR (.load 1 false) [x7] H4 fun x8 =>
    wP .lenS [x8] fun x9 =>
    wP (.bin .sub) [x9, (.int .i64 1)] fun x10 =>
    wP (.bin .eql) [x3, x10] fun x11 =>
    wChk [H, H, H1, H1, H1, H4, H4, H4, H4, H4, H4, H4, H4, H4, H4, H4] [⟨(.load 1 false), [x7], x8, [4]⟩] (atK (Q x11 H4)))
    (wChk [H, H, H1, H1, H1, H1, H1, H1, H1, H1, H1, H1, H1, H1, H1, H1] [] (atK (Q (.bool false) H1)))) := by kernel_rfl

/-- tompion/node.client -/
def c67_2 : C := .ret
def c67_1 : C := (.keep [2] c67_2)
def c67_0 : C := (.seq (.region [
      ⟨(some 3), (.pure .mov), [.t 0], none⟩,
      ⟨(some 4), (.pure .nilchk), [.t 3], none⟩,
      ⟨(some 5), (.pure (.fadd 2)), [.t 4], none⟩,
      ⟨(some 6), (.pure (.fadd 0)), [.t 5], none⟩,
      ⟨(some 7), (.read (.load 1 false) []), [.t 6], none⟩,
      ⟨(some 8), (.pure (.bin .geq)), [.t 7, .c (.int .i64 (Int.ofNat 100))], none⟩,
      ⟨(some 2), (.pure .mov), [.t 8], none⟩] false) c67_1)
def k67 : DFn := ⟨9, (.seq (.region [
      ⟨(some 2), (.pure .mov), [.c (.bool false)], none⟩] false) c67_0), [.tmp 2]⟩
theorem c67 : (match Tryz.prog.funcs[67]? with | some fn => compileFn Tryz.prog 4 [none, none, some [2]] fn | none => none) = some k67 := by kernel_rfl
theorem e67 (tb : Nat → Option DFn) (nv : CallF) (a0 : Value) (H : Heap) (Q : Value → Heap → Prop) : wFn tb nv k67 [a0] H Q = (
    wP .nilchk [a0] fun x0 =>
    wP (.fadd 2) [x0] fun x1 =>
    wP (.fadd 0) [x1] fun x2 =>
    wR (.load 1 false) [x2] H fun x3 =>
    wP (.bin .geq) [x3, (.int .i64 100)] fun x4 =>
    atK (Q x4 H)) := by kernel_rfl

/-- (*tompion/oplog.Log).Request -/
def c68_7 : C := .ret
def c68_6 : C := (.keep [6, 7] c68_7)
def c68_5 : C := (.seq (.region [
      ⟨(some 21), (.pure .mov), [.t 6], none⟩,
      ⟨(some 22), (.pure .mov), [.t 7], none⟩,
      ⟨(some 6), (.pure .mov), [.t 21], none⟩,
      ⟨(some 7), (.pure .mov), [.t 22], none⟩] false) c68_6)
def c68_1 : C := (.seq (.region [
      ⟨(some 11), (.pure .mov), [.t 0], none⟩,
      ⟨(some 12), (.pure .nilchk), [.t 11], none⟩,
      ⟨(some 13), (.pure (.fadd 3)), [.t 12], none⟩,
      ⟨(some 14), (.read (.load 1 false) []), [.t 13], none⟩,
      ⟨(some 15), (.pure .mov), [.t 1], none⟩,
      ⟨(some 16), (.pure .mov), [.t 2], none⟩,
      ⟨(some 17), (.pure (.build [(.int .i64 (Int.ofNat 0)), (.int .i64 (Int.ofNat 0))] [(0, 1), (1, 1)])), [.t 15, .t 16], none⟩,
      ⟨(some 18), (.read (.lookup (.agg [.i, .i]) (.int .i64 (Int.ofNat 0)) true) []), [.t 14, .t 17], none⟩,
      ⟨(some 10), (.pure .mov), [.t 18], none⟩,
      ⟨(some 19), (.pure (.extract 0)), [.t 10], none⟩,
      ⟨(some 20), (.pure (.extract 1)), [.t 10], none⟩,
      ⟨(some 6), (.pure .mov), [.t 19], none⟩,
      ⟨(some 7), (.pure .mov), [.t 20], none⟩] false) c68_5)
def c68_4 : C := .ret
def c68_3 : C := (.keep [6, 7] c68_4)
def c68_2 : C := (.cond (.t 9) (.seq (.region [
      ⟨(some 6), (.pure .mov), [.c (.int .i64 (Int.ofNat 0))], none⟩,
      ⟨(some 7), (.pure .mov), [.c (.bool false)], none⟩] false) c68_3)
    .skip)
def c68_0 : C := (.seq (.seq (.region [
      ⟨(some 8), (.pure .mov), [.t 0], none⟩,
      ⟨(some 9), (.pure (.nilEq false .ptr)), [.t 8], none⟩] false) c68_2) c68_1)
def k68 : DFn := ⟨23, (.seq (.region [
      ⟨(some 6), (.pure .mov), [.c (.int .i64 (Int.ofNat 0))], none⟩,
      ⟨(some 7), (.pure .mov), [.c (.bool false)], none⟩] false) c68_0), [.tmp 6, .tmp 7]⟩
theorem c68 : (match Tryz.prog.funcs[68]? with | some fn => compileFn Tryz.prog 4 [none, none, none, none, some [6, 7], none, none, some [6, 7]] fn | none => none) = some k68 := by kernel_rfl


end Go.Proofs.YtdpbbppjjjhnoaaGreatDoor.D
