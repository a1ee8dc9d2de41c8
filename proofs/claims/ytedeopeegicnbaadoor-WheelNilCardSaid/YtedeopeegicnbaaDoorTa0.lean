/- The compiled functions of the seat, as the machine "D" runs them, and what each comes to (written by a program). No statement of the seat is proved in this text. -/
import Derived.Test.YtedeopeegicnbaaDoorDz
import Derived.Test.YtedeopeegicnbaaDoorProg
set_option maxRecDepth 100000
set_option linter.unusedVariables false
namespace Go.Proofs.YtedeopeegicnbaaDoor.D
open Go
/-- gosem.cut.init -/

def k2 : DFn := ⟨1, (.region [
      ⟨(some 0), (.call 1), [], none⟩] false), []⟩
theorem c2 : (match Tryd.prog.funcs[2]? with | some fn => compileFn Tryd.prog 1 [] fn | none => none) = some k2 := by kernel_rfl
theorem e2 (tb : Nat → Option DFn) (nv : CallF) (H : Heap) (Q : Value → Heap → Prop) : wFn tb nv k2 [] H Q = (
    Ev tb nv 1 [] H fun x0 H1 =>
    Q (.tuple ⟨[]⟩) H1) := by kernel_rfl

/-- tompion/tompionlaw06.WheelOnce -/
def c3_60 : C := .ret
def c3_59 : C := (.keep [6] c3_60)
def c3_58 : C := (.seq (.region [
      ⟨(some 151), (.pure .mov), [.t 8], none⟩,
      ⟨(some 152), (.read .mlen []), [.t 151], none⟩,
      ⟨(some 153), (.pure (.bin .eql)), [.t 152, .c (.int .i64 (Int.ofNat 0))], none⟩,
      ⟨(some 6), (.pure .mov), [.t 153], none⟩] false) c3_59)
def c3_27 : C := (.keep [8] c3_58)
def c3_57 : C := .skip
def c3_30 : C := (.keep [2, 7, 8, 9, 12, 13] c3_57)
def c3_56 : C := (.region [
      ⟨(some 70), (.pure .mov), [.t 13], none⟩,
      ⟨(some 71), (.pure (.bin .add)), [.t 70, .c (.int .i64 (Int.ofNat 1))], none⟩,
      ⟨(some 13), (.pure .mov), [.t 71], none⟩] false)
def c3_34 : C := (.keep [2, 7, 8, 9, 12, 13] c3_56)
def c3_55 : C := (.region [
      ⟨(some 150), (.pure .mov), [.t 14], none⟩,
      ⟨(some 12), (.pure .mov), [.t 150], none⟩] false)
def c3_40 : C := (.keep [2, 7, 8, 9, 13, 14] c3_55)
def c3_54 : C := .skip
def c3_43 : C := (.keep [2, 7, 8, 9, 12, 13, 14, 15, 94, 95, 96] c3_54)
def c3_47 : C := (.region [
      ⟨(some 149), (.pure (.bin .add)), [.t 96, .c (.int .i64 (Int.ofNat 1))], none⟩,
      ⟨(some 96), (.pure .mov), [.t 149], none⟩] false)
def c3_53 : C := (.region [
      ⟨(some 148), (.read (.load 2 true) []), [.t 17], none⟩,
      ⟨none, (.eff (.store 2)), [.t 15, .t 148], none⟩] false)
def c3_49 : C := (.seq (.region [
      ⟨(some 145), (.pure .mov), [.t 8], none⟩,
      ⟨(some 146), (.pure (.iaddA 2 1)), [.t 17, .c (.int .i64 (Int.ofNat 1))], none⟩,
      ⟨(some 147), (.read (.load 1 false) []), [.t 146], none⟩,
      ⟨none, (.eff (.del (.one .i))), [.t 145, .t 147], none⟩] false) c3_53)
def c3_52 : C := .ret
def c3_51 : C := (.keep [6] c3_52)
def c3_50 : C := (.cond (.t 144) (.seq (.region [
      ⟨(some 6), (.pure .mov), [.c (.bool false)], none⟩] false) c3_51)
    .skip)
def c3_48 : C := (.seq (.seq (.region [
      ⟨(some 100), (.pure (.iaddA 2 1)), [.t 17, .c (.int .i64 (Int.ofNat 0))], none⟩,
      ⟨(some 101), (.read (.load 1 false) []), [.t 100], none⟩,
      ⟨(some 102), (.pure .mov), [.t 12], none⟩,
      ⟨(some 103), (.pure (.bin .leq)), [.t 101, .t 102], none⟩,
      ⟨(some 104), (.pure .mov), [.t 103], none⟩,
      ⟨(some 105), (.pure (.iaddA 2 1)), [.t 17, .c (.int .i64 (Int.ofNat 0))], (some (104, false))⟩,
      ⟨(some 106), (.read (.load 1 false) []), [.t 105], (some (104, false))⟩,
      ⟨(some 107), (.pure .mov), [.t 14], (some (104, false))⟩,
      ⟨(some 108), (.pure (.bin .gtr)), [.t 106, .t 107], (some (104, false))⟩,
      ⟨(some 109), (.pure .pick), [.t 104, .c (.bool true), .t 108], none⟩,
      ⟨(some 110), (.pure .mov), [.t 109], none⟩,
      ⟨(some 111), (.pure .mov), [.t 8], (some (110, false))⟩,
      ⟨(some 112), (.pure (.iaddA 2 1)), [.t 17, .c (.int .i64 (Int.ofNat 1))], (some (110, false))⟩,
      ⟨(some 113), (.read (.load 1 false) []), [.t 112], (some (110, false))⟩,
      ⟨(some 114), (.read (.lookup (.one .i) (.int .i64 (Int.ofNat 0)) false) []), [.t 111, .t 113], (some (110, false))⟩,
      ⟨(some 115), (.pure (.iaddA 2 1)), [.t 17, .c (.int .i64 (Int.ofNat 0))], (some (110, false))⟩,
      ⟨(some 116), (.read (.load 1 false) []), [.t 115], (some (110, false))⟩,
      ⟨(some 117), (.pure (.bin .neq)), [.t 114, .t 116], (some (110, false))⟩,
      ⟨(some 118), (.pure .pick), [.t 110, .c (.bool true), .t 117], none⟩,
      ⟨(some 119), (.pure .mov), [.t 118], none⟩,
      ⟨(some 120), (.pure (.iaddA 2 1)), [.t 17, .c (.int .i64 (Int.ofNat 0))], (some (119, false))⟩,
      ⟨(some 121), (.read (.load 1 false) []), [.t 120], (some (119, false))⟩,
      ⟨(some 122), (.pure (.iaddA 2 1)), [.t 15, .c (.int .i64 (Int.ofNat 0))], (some (119, false))⟩,
      ⟨(some 123), (.read (.load 1 false) []), [.t 122], (some (119, false))⟩,
      ⟨(some 124), (.pure (.bin .lss)), [.t 121, .t 123], (some (119, false))⟩,
      ⟨(some 125), (.pure .pick), [.t 119, .c (.bool true), .t 124], none⟩,
      ⟨(some 126), (.pure .mov), [.t 125], none⟩,
      ⟨(some 127), (.pure (.iaddA 2 1)), [.t 17, .c (.int .i64 (Int.ofNat 0))], (some (126, false))⟩,
      ⟨(some 128), (.read (.load 1 false) []), [.t 127], (some (126, false))⟩,
      ⟨(some 129), (.pure (.iaddA 2 1)), [.t 15, .c (.int .i64 (Int.ofNat 0))], (some (126, false))⟩,
      ⟨(some 130), (.read (.load 1 false) []), [.t 129], (some (126, false))⟩,
      ⟨(some 131), (.pure (.bin .eql)), [.t 128, .t 130], (some (126, false))⟩,
      ⟨(some 132), (.pure .mov), [.t 131], (some (126, false))⟩,
      ⟨(some 133), (.pure (.iaddA 2 1)), [.t 17, .c (.int .i64 (Int.ofNat 1))], (some (132, true))⟩,
      ⟨(some 134), (.read (.load 1 false) []), [.t 133], (some (132, true))⟩,
      ⟨(some 135), (.pure (.iaddA 2 1)), [.t 15, .c (.int .i64 (Int.ofNat 1))], (some (132, true))⟩,
      ⟨(some 136), (.read (.load 1 false) []), [.t 135], (some (132, true))⟩,
      ⟨(some 137), (.pure (.bin .leq)), [.t 134, .t 136], (some (132, true))⟩,
      ⟨(some 138), (.pure .pick), [.t 132, .t 137, .c (.bool false)], (some (126, false))⟩,
      ⟨(some 139), (.pure .mov), [.t 138], (some (126, false))⟩,
      ⟨(some 140), (.pure (.iaddA 2 1)), [.t 15, .c (.int .i64 (Int.ofNat 0))], (some (139, true))⟩,
      ⟨(some 141), (.read (.load 1 false) []), [.t 140], (some (139, true))⟩,
      ⟨(some 142), (.pure (.bin .gtr)), [.t 141, .c (.int .i64 (Int.ofNat 0))], (some (139, true))⟩,
      ⟨(some 143), (.pure .pick), [.t 139, .t 142, .c (.bool false)], (some (126, false))⟩,
      ⟨(some 144), (.pure .pick), [.t 126, .c (.bool true), .t 143], none⟩] false) c3_50) c3_49)
def c3_45 : C := (.seq (.block 5 (.seq (.region [
      ⟨(some 98), (.pure (.iaddS 2)), [.t 94, .t 96], none⟩,
      ⟨(some 99), (.read (.load 2 true) []), [.t 98], none⟩,
      ⟨(some 17), (.alloc (.alloc [(.int .i64 (Int.ofNat 0)), (.int .i64 (Int.ofNat 0))])), [], none⟩,
      ⟨none, (.eff (.store 2)), [.t 17, .t 99], none⟩] false) c3_48)) c3_47)
def c3_46 : C := (.exit 4)
def c3_44 : C := (.seq (.cond (.t 97) .skip
    (.keep [2, 7, 8, 9, 13, 14] c3_46)) c3_45)
def c3_42 : C := (.seq (.seq (.region [
      ⟨(some 97), (.pure (.bin .lss)), [.t 96, .t 95], none⟩] false) c3_44) c3_43)
def c3_41 : C := (.block 4 (.loop (some [2, 7, 8, 9, 12, 13, 14, 15, 94, 95, 96]) c3_42))
def c3_39 : C := (.seq (.seq (.region [
      ⟨(some 92), (.pure .mov), [.t 7], none⟩,
      ⟨(some 93), (.pure .mov), [.t 14], none⟩,
      ⟨(some 94), (.call 11), [.t 92, .t 93], none⟩,
      ⟨(some 95), (.pure .lenS), [.t 94], none⟩,
      ⟨(some 96), (.pure .mov), [.c (.int .i64 (Int.ofNat 0))], none⟩] false) c3_41) c3_40)
def c3_38 : C := (.seq (.region [
      ⟨(some 91), (.pure (.build [(.int .i64 (Int.ofNat 0)), (.int .i64 (Int.ofNat 0))] [])), [], none⟩,
      ⟨(some 15), (.alloc (.alloc [(.int .i64 (Int.ofNat 0)), (.int .i64 (Int.ofNat 0))])), [], none⟩,
      ⟨none, (.eff (.store 2)), [.t 15, .t 91], none⟩] false) c3_39)
def c3_36 : C := (.keep [2, 7, 8, 9, 12, 13, 14] c3_38)
def c3_37 : C := (.cond (.t 76) (.region [
      ⟨(some 77), (.pure .mov), [.t 12], none⟩,
      ⟨(some 78), (.pure .mov), [.t 2], none⟩,
      ⟨(some 79), (.pure .mov), [.t 13], none⟩,
      ⟨(some 80), (.pure (.iaddS 1)), [.t 78, .t 79], none⟩,
      ⟨(some 81), (.read (.load 1 false) []), [.t 80], none⟩,
      ⟨(some 82), (.pure (.conv .i64)), [.t 81], none⟩,
      ⟨(some 83), (.pure .mov), [.t 13], none⟩,
      ⟨(some 84), (.pure .mov), [.t 13], none⟩,
      ⟨(some 85), (.pure (.bin .mul)), [.t 83, .t 84], none⟩,
      ⟨(some 86), (.pure (.bin .add)), [.c (.int .i64 (Int.ofNat 1)), .t 85], none⟩,
      ⟨(some 87), (.pure (.bin .mul)), [.t 82, .t 86], none⟩,
      ⟨(some 88), (.pure (.bin .add)), [.t 77, .t 87], none⟩,
      ⟨(some 89), (.pure .mov), [.t 9], none⟩,
      ⟨(some 90), (.pure .min), [.t 88, .t 89], none⟩,
      ⟨(some 14), (.pure .mov), [.t 90], none⟩] false)
    .skip)
def c3_35 : C := (.seq (.seq (.region [
      ⟨(some 73), (.pure .mov), [.t 13], none⟩,
      ⟨(some 74), (.pure .mov), [.t 2], none⟩,
      ⟨(some 75), (.pure .lenS), [.t 74], none⟩,
      ⟨(some 76), (.pure (.bin .lss)), [.t 73, .t 75], none⟩] false) c3_37) c3_36)
def c3_31 : C := (.seq (.block 3 (.seq (.region [
      ⟨(some 72), (.pure .mov), [.t 9], none⟩,
      ⟨(some 14), (.pure .mov), [.t 72], none⟩] false) c3_35)) c3_34)
def c3_33 : C := (.exit 2)
def c3_32 : C := (.cond (.t 69) .skip
    (.keep [8] c3_33))
def c3_29 : C := (.seq (.seq (.seq (.region [
      ⟨(some 66), (.pure .mov), [.t 13], none⟩,
      ⟨(some 67), (.pure .mov), [.t 2], none⟩,
      ⟨(some 68), (.pure .lenS), [.t 67], none⟩,
      ⟨(some 69), (.pure (.bin .leq)), [.t 66, .t 68], none⟩] false) c3_32) c3_31) c3_30)
def c3_28 : C := (.block 2 (.loop (some [2, 7, 8, 9, 12, 13]) c3_29))
def c3_26 : C := (.seq (.seq (.region [
      ⟨(some 13), (.pure .mov), [.c (.int .i64 (Int.ofNat 0))], none⟩] false) c3_28) c3_27)
def c3_25 : C := (.seq (.region [
      ⟨(some 65), (.pure .mov), [.t 0], none⟩,
      ⟨(some 12), (.pure .mov), [.t 65], none⟩] false) c3_26)
def c3_9 : C := (.keep [0, 2, 7, 8, 9] c3_25)
def c3_24 : C := .skip
def c3_12 : C := (.keep [0, 2, 7, 8, 9, 39, 40, 41] c3_24)
def c3_16 : C := (.region [
      ⟨(some 64), (.pure (.bin .add)), [.t 41, .c (.int .i64 (Int.ofNat 1))], none⟩,
      ⟨(some 41), (.pure .mov), [.t 64], none⟩] false)
def c3_23 : C := (.region [
      ⟨(some 61), (.pure .mov), [.t 9], none⟩,
      ⟨(some 62), (.pure .mov), [.t 11], none⟩,
      ⟨(some 63), (.pure .max), [.t 61, .t 62], none⟩,
      ⟨(some 9), (.pure .mov), [.t 63], none⟩] false)
def c3_19 : C := (.seq (.region [
      ⟨(some 58), (.pure .mov), [.t 8], none⟩,
      ⟨(some 59), (.pure .mov), [.t 10], none⟩,
      ⟨(some 60), (.pure .mov), [.t 11], none⟩,
      ⟨none, (.eff (.mupd (.one .i))), [.t 58, .t 59, .t 60], none⟩] false) c3_23)
def c3_22 : C := .ret
def c3_21 : C := (.keep [6] c3_22)
def c3_20 : C := (.cond (.t 57) (.seq (.region [
      ⟨(some 6), (.pure .mov), [.c (.bool false)], none⟩] false) c3_21)
    .skip)
def c3_18 : C := (.seq (.seq (.region [
      ⟨(some 53), (.pure .mov), [.t 7], none⟩,
      ⟨(some 54), (.pure .mov), [.t 10], none⟩,
      ⟨(some 55), (.pure .mov), [.t 11], none⟩,
      ⟨(some 56), (.call 10), [.t 53, .t 54, .t 55], none⟩,
      ⟨(some 57), (.pure (.bin .neq)), [.t 56, .c (.int .i64 (Int.ofNat 0))], none⟩] false) c3_20) c3_19)
def c3_17 : C := (.seq (.region [
      ⟨(some 46), (.pure .mov), [.t 0], none⟩,
      ⟨(some 47), (.pure (.bin .add)), [.t 46, .c (.int .i64 (Int.ofNat 1))], none⟩,
      ⟨(some 48), (.pure .mov), [.t 11], none⟩,
      ⟨(some 49), (.pure (.conv .u64)), [.t 48], none⟩,
      ⟨(some 50), (.pure (.bin .rem)), [.t 49, .c (.int .u64 (Int.ofNat 137438953472))], none⟩,
      ⟨(some 51), (.pure (.conv .i64)), [.t 50], none⟩,
      ⟨(some 52), (.pure (.bin .add)), [.t 47, .t 51], none⟩,
      ⟨(some 11), (.pure .mov), [.t 52], none⟩] false) c3_18)
def c3_14 : C := (.seq (.block 1 (.seq (.region [
      ⟨(some 43), (.pure .mov), [.t 41], none⟩,
      ⟨(some 44), (.pure (.iaddS 1)), [.t 39, .t 41], none⟩,
      ⟨(some 45), (.read (.load 1 false) []), [.t 44], none⟩,
      ⟨(some 10), (.pure .mov), [.t 43], none⟩,
      ⟨(some 11), (.pure .mov), [.t 45], none⟩] false) c3_17)) c3_16)
def c3_15 : C := (.exit 0)
def c3_13 : C := (.seq (.cond (.t 42) .skip
    (.keep [0, 2, 7, 8, 9] c3_15)) c3_14)
def c3_11 : C := (.seq (.seq (.region [
      ⟨(some 42), (.pure (.bin .lss)), [.t 41, .t 40], none⟩] false) c3_13) c3_12)
def c3_10 : C := (.block 0 (.loop (some [0, 2, 7, 8, 9, 39, 40, 41]) c3_11))
def c3_8 : C := (.seq (.seq (.region [
      ⟨(some 39), (.pure .mov), [.t 1], none⟩,
      ⟨(some 40), (.pure .lenS), [.t 39], none⟩,
      ⟨(some 41), (.pure .mov), [.c (.int .i64 (Int.ofNat 0))], none⟩] false) c3_10) c3_9)
def c3_7 : C := (.seq (.region [
      ⟨(some 38), (.pure .mov), [.t 0], none⟩,
      ⟨(some 9), (.pure .mov), [.t 38], none⟩] false) c3_8)
def c3_6 : C := (.seq (.region [
      ⟨(some 37), (.alloc .mkmap), [], none⟩,
      ⟨(some 8), (.pure .mov), [.t 37], none⟩] false) c3_7)
def c3_2 : C := (.seq (.region [
      ⟨(some 35), (.pure .mov), [.t 0], none⟩,
      ⟨(some 36), (.call 9), [.t 35], none⟩,
      ⟨(some 7), (.pure .mov), [.t 36], none⟩] false) c3_6)
def c3_5 : C := .ret
def c3_4 : C := (.keep [6] c3_5)
def c3_3 : C := (.cond (.t 33) (.seq (.region [
      ⟨(some 34), (.call 8), [], none⟩,
      ⟨(some 6), (.pure .mov), [.t 34], none⟩] false) c3_4)
    .skip)
def c3_1 : C := (.seq (.seq (.region [
      ⟨(some 22), (.call 8), [], none⟩,
      ⟨(some 23), (.pure (.un .not)), [.t 22], none⟩,
      ⟨(some 24), (.pure .mov), [.t 23], none⟩,
      ⟨(some 25), (.pure .mov), [.t 1], (some (24, false))⟩,
      ⟨(some 26), (.pure .lenS), [.t 25], (some (24, false))⟩,
      ⟨(some 27), (.pure (.bin .gtr)), [.t 26, .c (.int .i64 (Int.ofNat 300))], (some (24, false))⟩,
      ⟨(some 28), (.pure .pick), [.t 24, .c (.bool true), .t 27], none⟩,
      ⟨(some 29), (.pure .mov), [.t 28], none⟩,
      ⟨(some 30), (.pure .mov), [.t 2], (some (29, false))⟩,
      ⟨(some 31), (.pure .lenS), [.t 30], (some (29, false))⟩,
      ⟨(some 32), (.pure (.bin .gtr)), [.t 31, .c (.int .i64 (Int.ofNat 300))], (some (29, false))⟩,
      ⟨(some 33), (.pure .pick), [.t 29, .c (.bool true), .t 32], none⟩] false) c3_3) c3_2)
def c3_0 : C := (.seq (.region [
      ⟨(some 18), (.pure .mov), [.t 0], none⟩,
      ⟨(some 19), (.pure (.conv .u64)), [.t 18], none⟩,
      ⟨(some 20), (.pure (.bin .rem)), [.t 19, .c (.int .u64 (Int.ofNat 274877906944))], none⟩,
      ⟨(some 21), (.pure (.conv .i64)), [.t 20], none⟩,
      ⟨(some 0), (.pure .mov), [.t 21], none⟩] false) c3_1)
def k3 : DFn := ⟨154, (.seq (.region [
      ⟨(some 6), (.pure .mov), [.c (.bool false)], none⟩] false) c3_0), [.tmp 6]⟩
theorem c3 : (match Tryd.prog.funcs[3]? with | some fn => compileFn Tryd.prog 1 [none, none, none, none, none, some [6], none, none, none, some [0, 2, 7, 8, 9], none, some [0, 2, 7, 8, 9, 39, 40, 41], none, none, some [0, 2, 7, 8, 9], none, none, none, none, none, none, some [6], none, none, some [8], none, some [2, 7, 8, 9, 12, 13], none, none, some [8], some [2, 7, 8, 9, 12, 13], none, some [2, 7, 8, 9, 12, 13, 14], none, none, some [2, 7, 8, 9, 13, 14], none, some [2, 7, 8, 9, 12, 13, 14, 15, 94, 95, 96], none, none, some [2, 7, 8, 9, 13, 14], none, none, none, none, none, some [6], none, none, some [6]] fn | none => none) = some k3 := by kernel_rfl
def q3_0 (tb : Nat → Option DFn) (nv : CallF) (Q : Value → Heap → Prop) : Kont := kSeq (fun wf H => wC tb nv c3_9 wf H (kFn [.tmp 6] Q)) (kFn [.tmp 6] Q)
def q3_1 (tb : Nat → Option DFn) (nv : CallF) (Q : Value → Heap → Prop) : Kont := kBlk 0 (q3_0 tb nv Q)
def q3_2 (tb : Nat → Option DFn) (nv : CallF) (Q : Value → Heap → Prop) : Kont := kSeq (fun wf H => wC tb nv c3_27 wf H (kFn [.tmp 6] Q)) (kFn [.tmp 6] Q)
def q3_3 (tb : Nat → Option DFn) (nv : CallF) (Q : Value → Heap → Prop) : Kont := kBlk 2 (q3_2 tb nv Q)
def q3_4 (tb : Nat → Option DFn) (nv : CallF) (K : Kont) : Kont := kSeq (fun wf H => wC tb nv c3_30 wf H K) K
def q3_5 (tb : Nat → Option DFn) (nv : CallF) (K : Kont) : Kont := kSeq (fun wf H => wC tb nv c3_34 wf H (q3_4 tb nv K)) (q3_4 tb nv K)
def q3_6 (tb : Nat → Option DFn) (nv : CallF) (K : Kont) : Kont := kBlk 3 (q3_5 tb nv K)
def q3_7 (tb : Nat → Option DFn) (nv : CallF) (K : Kont) : Kont := kSeq (fun wf H => wC tb nv c3_40 wf H (q3_6 tb nv K)) (q3_6 tb nv K)
def q3_8 (tb : Nat → Option DFn) (nv : CallF) (K : Kont) : Kont := kBlk 4 (q3_7 tb nv K)
def w3_25 (tb : Nat → Option DFn) (nv : CallF) (t0 t2 t7 t8 t9 : Value) (H : Heap) (Q : Value → Heap → Prop) : Prop := wC tb nv c3_25 (mkW [(0, t0), (2, t2), (7, t7), (8, t8), (9, t9)]) H (kFn [.tmp 6] Q)
def w3_38 (tb : Nat → Option DFn) (nv : CallF) (t2 t7 t8 t9 t12 t13 t14 : Value) (H : Heap) (K : Kont) : Prop := wC tb nv c3_38 (mkW [(2, t2), (7, t7), (8, t8), (9, t9), (12, t12), (13, t13), (14, t14)]) H (q3_6 tb nv K)
def w3_58 (tb : Nat → Option DFn) (nv : CallF) (t8 : Value) (H : Heap) (Q : Value → Heap → Prop) : Prop := wC tb nv c3_58 (mkW [(8, t8)]) H (kFn [.tmp 6] Q)
def w3_55 (tb : Nat → Option DFn) (nv : CallF) (t2 t7 t8 t9 t13 t14 : Value) (H : Heap) (K : Kont) : Prop := wC tb nv c3_55 (mkW [(2, t2), (7, t7), (8, t8), (9, t9), (13, t13), (14, t14)]) H (q3_6 tb nv K)
def w3_56 (tb : Nat → Option DFn) (nv : CallF) (t2 t7 t8 t9 t12 t13 : Value) (H : Heap) (K : Kont) : Prop := wC tb nv c3_56 (mkW [(2, t2), (7, t7), (8, t8), (9, t9), (12, t12), (13, t13)]) H (q3_4 tb nv K)
theorem e3 (tb : Nat → Option DFn) (nv : CallF) (a0 a1 a2 : Value) (H : Heap) (Q : Value → Heap → Prop) : wFn tb nv k3 [a0, a1, a2] H Q = (
    wP (.conv .u64) [a0] fun x0 =>
    wP (.bin .rem) [x0, (.int .u64 274877906944)] fun x1 =>
    wP (.conv .i64) [x1] fun x2 =>
    Ev tb nv 8 [] H fun x3 H4 =>
    wP (.un .not) [x3] fun x5 =>
    asB x5 fun b6 => onB b6 (Ev tb nv 8 [] H4 fun x7 H8 =>
    atK (Q x7 H8))
    (wP .lenS [a1] fun x9 =>
    wP (.bin .gtr) [x9, (.int .i64 300)] fun x10 =>
    asB x10 fun b11 => onB b11 (Ev tb nv 8 [] H4 fun x12 H13 =>
    atK (Q x12 H13))
    (wP .lenS [a2] fun x14 =>
    wP (.bin .gtr) [x14, (.int .i64 300)] fun x15 =>
    asB x15 fun b16 => onB b16 (Ev tb nv 8 [] H4 fun x17 H18 =>
    atK (Q x17 H18))
    (Ev tb nv 9 [x2] H4 fun x19 H20 =>
    wA .mkmap [] H20 fun x21 H22 =>
    wP .lenS [a1] fun x23 =>
    wLoop tb nv c3_11 [0, 2, 7, 8, 9, 39, 40, 41] (mkW [(0, x2), (2, a2), (7, x19), (8, x21), (9, x2), (39, a1), (40, x23), (41, (.int .i64 0))]) H22 (q3_1 tb nv Q))))) := by kernel_rfl
theorem l3_11 (tb : Nat → Option DFn) (nv : CallF) (t0 t2 t7 t8 t9 t39 t40 t41 : Value) (H : Heap) (K : Kont) : wC tb nv c3_11 (mkW [(0, t0), (2, t2), (7, t7), (8, t8), (9, t9), (39, t39), (40, t40), (41, t41)]) H K = (
    wP (.bin .lss) [t41, t40] fun x24 =>
    asB x24 fun b25 => onB b25 (wP (.iaddS 1) [t39, t41] fun x26 =>
    wR (.load 1 false) [x26] H fun x27 =>
    wP (.bin .add) [t0, (.int .i64 1)] fun x28 =>
    wP (.conv .u64) [x27] fun x29 =>
    wP (.bin .rem) [x29, (.int .u64 137438953472)] fun x30 =>
    wP (.conv .i64) [x30] fun x31 =>
    wP (.bin .add) [x28, x31] fun x32 =>
    Ev tb nv 10 [t7, t41, x32] H fun x33 H34 =>
    wP (.bin .neq) [x33, (.int .i64 0)] fun x35 =>
    asB x35 fun b36 => onB b36 (atK (K .ret (mkW [(6, (.bool false))]) H34))
    (wE (.mupd (.one .i)) [t8, t41, x32] H34 fun x37 H38 =>
    wP .max [t9, x32] fun x39 =>
    wP (.bin .add) [t41, (.int .i64 1)] fun x40 =>
    atK (K .normal (mkW [(0, t0), (2, t2), (7, t7), (8, t8), (9, x39), (39, t39), (40, t40), (41, x40)]) H38)))
    (atK (K (.exit 0) (mkW [(0, t0), (2, t2), (7, t7), (8, t8), (9, t9)]) H))) := by kernel_rfl
theorem x3_11_0 (tb : Nat → Option DFn) (nv : CallF) (t6 : Value) (H : Heap) (Q : Value → Heap → Prop) : (q3_1 tb nv Q) .ret (mkW [(6, t6)]) H = (
    Q t6 H) := by kernel_rfl
theorem x3_11_1 (tb : Nat → Option DFn) (nv : CallF) (t0 t2 t7 t8 t9 : Value) (H : Heap) (Q : Value → Heap → Prop) : (q3_1 tb nv Q) (.exit 0) (mkW [(0, t0), (2, t2), (7, t7), (8, t8), (9, t9)]) H = (
    atK (w3_25 tb nv t0 t2 t7 t8 t9 H Q)) := by kernel_rfl
theorem e3_25 (tb : Nat → Option DFn) (nv : CallF) (t0 t2 t7 t8 t9 : Value) (H : Heap) (Q : Value → Heap → Prop) : w3_25 tb nv t0 t2 t7 t8 t9 H Q = (
    wLoop tb nv c3_29 [2, 7, 8, 9, 12, 13] (mkW [(2, t2), (7, t7), (8, t8), (9, t9), (12, t0), (13, (.int .i64 0))]) H (q3_3 tb nv Q)) := by kernel_rfl
theorem l3_29 (tb : Nat → Option DFn) (nv : CallF) (t2 t7 t8 t9 t12 t13 : Value) (H : Heap) (K : Kont) : wC tb nv c3_29 (mkW [(2, t2), (7, t7), (8, t8), (9, t9), (12, t12), (13, t13)]) H K = (
    wP .lenS [t2] fun x41 =>
    wP (.bin .leq) [t13, x41] fun x42 =>
    asB x42 fun b43 => onB b43 (wP .lenS [t2] fun x44 =>
    wP (.bin .lss) [t13, x44] fun x45 =>
    asB x45 fun b46 => onB b46 (wP (.iaddS 1) [t2, t13] fun x47 =>
    wR (.load 1 false) [x47] H fun x48 =>
    wP (.conv .i64) [x48] fun x49 =>
    wP (.bin .mul) [t13, t13] fun x50 =>
    wP (.bin .add) [(.int .i64 1), x50] fun x51 =>
    wP (.bin .mul) [x49, x51] fun x52 =>
    wP (.bin .add) [t12, x52] fun x53 =>
    wP .min [x53, t9] fun x54 =>
    atK (w3_38 tb nv t2 t7 t8 t9 t12 t13 x54 H K))
    (atK (w3_38 tb nv t2 t7 t8 t9 t12 t13 t9 H K)))
    (atK (K (.exit 2) (mkW [(8, t8)]) H))) := by kernel_rfl
theorem x3_29_0 (tb : Nat → Option DFn) (nv : CallF) (t8 : Value) (H : Heap) (Q : Value → Heap → Prop) : (q3_3 tb nv Q) (.exit 2) (mkW [(8, t8)]) H = (
    atK (w3_58 tb nv t8 H Q)) := by kernel_rfl
theorem e3_38 (tb : Nat → Option DFn) (nv : CallF) (t2 t7 t8 t9 t12 t13 t14 : Value) (H : Heap) (K : Kont) : w3_38 tb nv t2 t7 t8 t9 t12 t13 t14 H K = (
    wP (.build [(.int .i64 0), (.int .i64 0)] []) [] fun x55 =>
    wA (.alloc [(.int .i64 0), (.int .i64 0)]) [] H fun x56 H57 =>
    wE (.store 2) [x56, x55] H57 fun x58 H59 =>
    Ev tb nv 11 [t7, t14] H59 fun x60 H61 =>
    wP .lenS [x60] fun x62 =>
    wLoop tb nv c3_42 [2, 7, 8, 9, 12, 13, 14, 15, 94, 95, 96] (mkW [(2, t2), (7, t7), (8, t8), (9, t9), (12, t12), (13, t13), (14, t14), (15, x56), (94, x60), (95, x62), (96, (.int .i64 0))]) H61 (q3_8 tb nv K)) := by kernel_rfl
theorem e3_58 (tb : Nat → Option DFn) (nv : CallF) (t8 : Value) (H : Heap) (Q : Value → Heap → Prop) : w3_58 tb nv t8 H Q = (
    wR .mlen [t8] H fun x63 =>
    wP (.bin .eql) [x63, (.int .i64 0)] fun x64 =>
    atK (Q x64 H)) := by kernel_rfl
theorem l3_42 (tb : Nat → Option DFn) (nv : CallF) (t2 t7 t8 t9 t12 t13 t14 t15 t94 t95 t96 : Value) (H : Heap) (K : Kont) : wC tb nv c3_42 (mkW [(2, t2), (7, t7), (8, t8), (9, t9), (12, t12), (13, t13), (14, t14), (15, t15), (94, t94), (95, t95), (96, t96)]) H K = (
    wP (.bin .lss) [t96, t95] fun x65 =>
    asB x65 fun b66 => onB b66 (wP (.iaddS 2) [t94, t96] fun x67 =>
    wR (.load 2 true) [x67] H fun x68 =>
    wA (.alloc [(.int .i64 0), (.int .i64 0)]) [] H fun x69 H70 =>
    wE (.store 2) [x69, x68] H70 fun x71 H72 =>
    wP (.iaddA 2 1) [x69, (.int .i64 0)] fun x73 =>
    wR (.load 1 false) [x73] H72 fun x74 =>
    wP (.bin .leq) [x74, t12] fun x75 =>
    asB x75 fun b76 => onB b76 (atK (K .ret (mkW [(6, (.bool false))]) H72))
    (wP (.iaddA 2 1) [x69, (.int .i64 0)] fun x77 =>
    wR (.load 1 false) [x77] H72 fun x78 =>
    wP (.bin .gtr) [x78, t14] fun x79 =>
    asB x79 fun b80 => onB b80 (atK (K .ret (mkW [(6, (.bool false))]) H72))
    (wP (.iaddA 2 1) [x69, (.int .i64 1)] fun x81 =>
    wR (.load 1 false) [x81] H72 fun x82 =>
    wR (.lookup (.one .i) (.int .i64 0) false) [t8, x82] H72 fun x83 =>
    wP (.iaddA 2 1) [x69, (.int .i64 0)] fun x84 =>
    wR (.load 1 false) [x84] H72 fun x85 =>
    wP (.bin .neq) [x83, x85] fun x86 =>
    asB x86 fun b87 => onB b87 (atK (K .ret (mkW [(6, (.bool false))]) H72))
    (wP (.iaddA 2 1) [x69, (.int .i64 0)] fun x88 =>
    wR (.load 1 false) [x88] H72 fun x89 =>
    wP (.iaddA 2 1) [t15, (.int .i64 0)] fun x90 =>
    wR (.load 1 false) [x90] H72 fun x91 =>
    wP (.bin .lss) [x89, x91] fun x92 =>
    asB x92 fun b93 => onB b93 (atK (K .ret (mkW [(6, (.bool false))]) H72))
    (wP (.iaddA 2 1) [x69, (.int .i64 0)] fun x94 =>
    wR (.load 1 false) [x94] H72 fun x95 =>
    wP (.iaddA 2 1) [t15, (.int .i64 0)] fun x96 =>
    wR (.load 1 false) [x96] H72 fun x97 =>
    wP (.bin .eql) [x95, x97] fun x98 =>
    asB x98 fun b99 => onB b99 (wP (.iaddA 2 1) [x69, (.int .i64 1)] fun x100 =>
    wR (.load 1 false) [x100] H72 fun x101 =>
    wP (.iaddA 2 1) [t15, (.int .i64 1)] fun x102 =>
    wR (.load 1 false) [x102] H72 fun x103 =>
    wP (.bin .leq) [x101, x103] fun x104 =>
    asB x104 fun b105 => onB b105 (wP (.iaddA 2 1) [t15, (.int .i64 0)] fun x106 =>
    wR (.load 1 false) [x106] H72 fun x107 =>
    wP (.bin .gtr) [x107, (.int .i64 0)] fun x108 =>
    asB x108 fun b109 => onB b109 (atK (K .ret (mkW [(6, (.bool false))]) H72))
    (wP (.iaddA 2 1) [x69, (.int .i64 1)] fun x110 =>
    wR (.load 1 false) [x110] H72 fun x111 =>
    wE (.del (.one .i)) [t8, x111] H72 fun x112 H113 =>
    wR (.load 2 true) [x69] H113 fun x114 =>
    wE (.store 2) [t15, x114] H113 fun x115 H116 =>
    wP (.bin .add) [t96, (.int .i64 1)] fun x117 =>
    atK (K .normal (mkW [(2, t2), (7, t7), (8, t8), (9, t9), (12, t12), (13, t13), (14, t14), (15, t15), (94, t94), (95, t95), (96, x117)]) H116)))
    (wP (.iaddA 2 1) [x69, (.int .i64 1)] fun x118 =>
    wR (.load 1 false) [x118] H72 fun x119 =>
    wE (.del (.one .i)) [t8, x119] H72 fun x120 H121 =>
    wR (.load 2 true) [x69] H121 fun x122 =>
    wE (.store 2) [t15, x122] H121 fun x123 H124 =>
    wP (.bin .add) [t96, (.int .i64 1)] fun x125 =>
    atK (K .normal (mkW [(2, t2), (7, t7), (8, t8), (9, t9), (12, t12), (13, t13), (14, t14), (15, t15), (94, t94), (95, t95), (96, x125)]) H124)))
    (wP (.iaddA 2 1) [x69, (.int .i64 1)] fun x126 =>
    wR (.load 1 false) [x126] H72 fun x127 =>
    wE (.del (.one .i)) [t8, x127] H72 fun x128 H129 =>
    wR (.load 2 true) [x69] H129 fun x130 =>
    wE (.store 2) [t15, x130] H129 fun x131 H132 =>
    wP (.bin .add) [t96, (.int .i64 1)] fun x133 =>
    atK (K .normal (mkW [(2, t2), (7, t7), (8, t8), (9, t9), (12, t12), (13, t13), (14, t14), (15, t15), (94, t94), (95, t95), (96, x133)]) H132)))))))
    (atK (K (.exit 4) (mkW [(2, t2), (7, t7), (8, t8), (9, t9), (13, t13), (14, t14)]) H))) := by kernel_rfl
theorem x3_42_0 (tb : Nat → Option DFn) (nv : CallF) (t6 : Value) (H : Heap) (K : Kont) : (q3_8 tb nv K) .ret (mkW [(6, t6)]) H = (
    K .ret (mkW [(6, t6)]) H) := by kernel_rfl
theorem x3_42_1 (tb : Nat → Option DFn) (nv : CallF) (t2 t7 t8 t9 t13 t14 : Value) (H : Heap) (K : Kont) : (q3_8 tb nv K) (.exit 4) (mkW [(2, t2), (7, t7), (8, t8), (9, t9), (13, t13), (14, t14)]) H = (
    atK (w3_55 tb nv t2 t7 t8 t9 t13 t14 H K)) := by kernel_rfl
theorem e3_55 (tb : Nat → Option DFn) (nv : CallF) (t2 t7 t8 t9 t13 t14 : Value) (H : Heap) (K : Kont) : w3_55 tb nv t2 t7 t8 t9 t13 t14 H K = (
    atK (w3_56 tb nv t2 t7 t8 t9 t14 t13 H K)) := by kernel_rfl
theorem e3_56 (tb : Nat → Option DFn) (nv : CallF) (t2 t7 t8 t9 t12 t13 : Value) (H : Heap) (K : Kont) : w3_56 tb nv t2 t7 t8 t9 t12 t13 H K = (
    wP (.bin .add) [t13, (.int .i64 1)] fun x134 =>
    atK (K .normal (mkW [(2, t2), (7, t7), (8, t8), (9, t9), (12, t12), (13, x134)]) H)) := by kernel_rfl

/-- tompion/tompionlaw06.WheelSteps -/
def c4_23 : C := .ret
def c4_22 : C := (.keep [8] c4_23)
def c4_21 : C := (.seq (.region [
      ⟨(some 79), (.pure .mov), [.t 13], none⟩,
      ⟨(some 80), (.pure .mov), [.t 14], none⟩,
      ⟨(some 81), (.call 12), [.t 79, .t 80], none⟩,
      ⟨(some 82), (.pure .mov), [.t 81], none⟩,
      ⟨(some 83), (.pure .mov), [.t 9], (some (82, true))⟩,
      ⟨(some 84), (.call 13), [.t 83, .c (.int .i64 (Int.ofNat 1000))], (some (82, true))⟩,
      ⟨(some 85), (.pure .mov), [.t 10], (some (82, true))⟩,
      ⟨(some 86), (.call 13), [.t 85, .c (.int .i64 (Int.ofNat 1000))], (some (82, true))⟩,
      ⟨(some 87), (.call 12), [.t 84, .t 86], (some (82, true))⟩,
      ⟨(some 88), (.pure .pick), [.t 82, .t 87, .c (.bool false)], none⟩,
      ⟨(some 89), (.pure .mov), [.t 88], none⟩,
      ⟨(some 90), (.pure .mov), [.t 9], (some (89, true))⟩,
      ⟨(some 91), (.call 14), [.t 90], (some (89, true))⟩,
      ⟨(some 92), (.pure .mov), [.t 10], (some (89, true))⟩,
      ⟨(some 93), (.call 14), [.t 92], (some (89, true))⟩,
      ⟨(some 94), (.pure (.bin .eql)), [.t 91, .t 93], (some (89, true))⟩,
      ⟨(some 95), (.pure .pick), [.t 89, .t 94, .c (.bool false)], none⟩,
      ⟨(some 8), (.pure .mov), [.t 95], none⟩] false) c4_22)
def c4_20 : C := (.seq (.region [
      ⟨(some 66), (.pure .mov), [.t 10], none⟩,
      ⟨(some 67), (.pure .mov), [.t 0], none⟩,
      ⟨(some 68), (.pure .mov), [.t 2], none⟩,
      ⟨(some 69), (.pure (.bin .add)), [.t 67, .t 68], none⟩,
      ⟨(some 70), (.call 11), [.t 66, .t 69], none⟩,
      ⟨(some 71), (.pure .mov), [.t 10], none⟩,
      ⟨(some 72), (.pure .mov), [.t 0], none⟩,
      ⟨(some 73), (.pure .mov), [.t 2], none⟩,
      ⟨(some 74), (.pure (.bin .add)), [.t 72, .t 73], none⟩,
      ⟨(some 75), (.pure .mov), [.t 3], none⟩,
      ⟨(some 76), (.pure (.bin .add)), [.t 74, .t 75], none⟩,
      ⟨(some 77), (.call 11), [.t 71, .t 76], none⟩,
      ⟨(some 78), (.eff (.app 2 16)), [.t 70, .t 77], none⟩,
      ⟨(some 14), (.pure .mov), [.t 78], none⟩] false) c4_21)
def c4_19 : C := (.seq (.region [
      ⟨(some 59), (.pure .mov), [.t 9], none⟩,
      ⟨(some 60), (.pure .mov), [.t 0], none⟩,
      ⟨(some 61), (.pure .mov), [.t 2], none⟩,
      ⟨(some 62), (.pure (.bin .add)), [.t 60, .t 61], none⟩,
      ⟨(some 63), (.pure .mov), [.t 3], none⟩,
      ⟨(some 64), (.pure (.bin .add)), [.t 62, .t 63], none⟩,
      ⟨(some 65), (.call 11), [.t 59, .t 64], none⟩,
      ⟨(some 13), (.pure .mov), [.t 65], none⟩] false) c4_20)
def c4_7 : C := (.keep [0, 2, 3, 9, 10] c4_19)
def c4_18 : C := .skip
def c4_10 : C := (.keep [0, 2, 3, 9, 10, 39, 40, 41] c4_18)
def c4_14 : C := (.region [
      ⟨(some 58), (.pure (.bin .add)), [.t 41, .c (.int .i64 (Int.ofNat 1))], none⟩,
      ⟨(some 41), (.pure .mov), [.t 58], none⟩] false)
def c4_17 : C := (.region [
      ⟨(some 54), (.pure .mov), [.t 10], none⟩,
      ⟨(some 55), (.pure .mov), [.t 11], none⟩,
      ⟨(some 56), (.pure .mov), [.t 12], none⟩,
      ⟨(some 57), (.call 10), [.t 54, .t 55, .t 56], none⟩] false)
def c4_16 : C := (.seq (.region [
      ⟨(some 50), (.pure .mov), [.t 9], none⟩,
      ⟨(some 51), (.pure .mov), [.t 11], none⟩,
      ⟨(some 52), (.pure .mov), [.t 12], none⟩,
      ⟨(some 53), (.call 10), [.t 50, .t 51, .t 52], none⟩] false) c4_17)
def c4_15 : C := (.seq (.region [
      ⟨(some 46), (.pure .mov), [.t 12], none⟩,
      ⟨(some 47), (.pure (.conv .u64)), [.t 46], none⟩,
      ⟨(some 48), (.pure (.bin .rem)), [.t 47, .c (.int .u64 (Int.ofNat 2147483648))], none⟩,
      ⟨(some 49), (.pure (.conv .i64)), [.t 48], none⟩,
      ⟨(some 12), (.pure .mov), [.t 49], none⟩] false) c4_16)
def c4_12 : C := (.seq (.block 1 (.seq (.region [
      ⟨(some 43), (.pure .mov), [.t 41], none⟩,
      ⟨(some 44), (.pure (.iaddS 1)), [.t 39, .t 41], none⟩,
      ⟨(some 45), (.read (.load 1 false) []), [.t 44], none⟩,
      ⟨(some 11), (.pure .mov), [.t 43], none⟩,
      ⟨(some 12), (.pure .mov), [.t 45], none⟩] false) c4_15)) c4_14)
def c4_13 : C := (.exit 0)
def c4_11 : C := (.seq (.cond (.t 42) .skip
    (.keep [0, 2, 3, 9, 10] c4_13)) c4_12)
def c4_9 : C := (.seq (.seq (.region [
      ⟨(some 42), (.pure (.bin .lss)), [.t 41, .t 40], none⟩] false) c4_11) c4_10)
def c4_8 : C := (.block 0 (.loop (some [0, 2, 3, 9, 10, 39, 40, 41]) c4_9))
def c4_6 : C := (.seq (.seq (.region [
      ⟨(some 39), (.pure .mov), [.t 1], none⟩,
      ⟨(some 40), (.pure .lenS), [.t 39], none⟩,
      ⟨(some 41), (.pure .mov), [.c (.int .i64 (Int.ofNat 0))], none⟩] false) c4_8) c4_7)
def c4_2 : C := (.seq (.region [
      ⟨(some 35), (.pure .mov), [.t 0], none⟩,
      ⟨(some 36), (.call 9), [.t 35], none⟩,
      ⟨(some 37), (.pure .mov), [.t 0], none⟩,
      ⟨(some 38), (.call 9), [.t 37], none⟩,
      ⟨(some 9), (.pure .mov), [.t 36], none⟩,
      ⟨(some 10), (.pure .mov), [.t 38], none⟩] false) c4_6)
def c4_5 : C := .ret
def c4_4 : C := (.keep [8] c4_5)
def c4_3 : C := (.cond (.t 33) (.seq (.region [
      ⟨(some 34), (.call 8), [], none⟩,
      ⟨(some 8), (.pure .mov), [.t 34], none⟩] false) c4_4)
    .skip)
def c4_1 : C := (.seq (.seq (.region [
      ⟨(some 27), (.call 8), [], none⟩,
      ⟨(some 28), (.pure (.un .not)), [.t 27], none⟩,
      ⟨(some 29), (.pure .mov), [.t 28], none⟩,
      ⟨(some 30), (.pure .mov), [.t 1], (some (29, false))⟩,
      ⟨(some 31), (.pure .lenS), [.t 30], (some (29, false))⟩,
      ⟨(some 32), (.pure (.bin .gtr)), [.t 31, .c (.int .i64 (Int.ofNat 200))], (some (29, false))⟩,
      ⟨(some 33), (.pure .pick), [.t 29, .c (.bool true), .t 32], none⟩] false) c4_3) c4_2)
def c4_0 : C := (.seq (.region [
      ⟨(some 15), (.pure .mov), [.t 0], none⟩,
      ⟨(some 16), (.pure (.conv .u64)), [.t 15], none⟩,
      ⟨(some 17), (.pure (.bin .rem)), [.t 16, .c (.int .u64 (Int.ofNat 1073741824))], none⟩,
      ⟨(some 18), (.pure (.conv .i64)), [.t 17], none⟩,
      ⟨(some 19), (.pure .mov), [.t 2], none⟩,
      ⟨(some 20), (.pure (.conv .u64)), [.t 19], none⟩,
      ⟨(some 21), (.pure (.bin .rem)), [.t 20, .c (.int .u64 (Int.ofNat 1048576))], none⟩,
      ⟨(some 22), (.pure (.conv .i64)), [.t 21], none⟩,
      ⟨(some 23), (.pure .mov), [.t 3], none⟩,
      ⟨(some 24), (.pure (.conv .u64)), [.t 23], none⟩,
      ⟨(some 25), (.pure (.bin .rem)), [.t 24, .c (.int .u64 (Int.ofNat 1048576))], none⟩,
      ⟨(some 26), (.pure (.conv .i64)), [.t 25], none⟩,
      ⟨(some 0), (.pure .mov), [.t 18], none⟩,
      ⟨(some 2), (.pure .mov), [.t 22], none⟩,
      ⟨(some 3), (.pure .mov), [.t 26], none⟩] false) c4_1)
def k4 : DFn := ⟨96, (.seq (.region [
      ⟨(some 8), (.pure .mov), [.c (.bool false)], none⟩] false) c4_0), [.tmp 8]⟩
theorem c4 : (match Tryd.prog.funcs[4]? with | some fn => compileFn Tryd.prog 1 [none, none, none, none, none, some [8], none, some [0, 2, 3, 9, 10], none, some [0, 2, 3, 9, 10, 39, 40, 41], none, none, some [0, 2, 3, 9, 10], none, none, none, none, none, none, none, some [8]] fn | none => none) = some k4 := by kernel_rfl
def q4_0 (tb : Nat → Option DFn) (nv : CallF) (Q : Value → Heap → Prop) : Kont := kSeq (fun wf H => wC tb nv c4_7 wf H (kFn [.tmp 8] Q)) (kFn [.tmp 8] Q)
def q4_1 (tb : Nat → Option DFn) (nv : CallF) (Q : Value → Heap → Prop) : Kont := kBlk 0 (q4_0 tb nv Q)
def w4_19 (tb : Nat → Option DFn) (nv : CallF) (t0 t2 t3 t9 t10 : Value) (H : Heap) (Q : Value → Heap → Prop) : Prop := wC tb nv c4_19 (mkW [(0, t0), (2, t2), (3, t3), (9, t9), (10, t10)]) H (kFn [.tmp 8] Q)
theorem e4 (tb : Nat → Option DFn) (nv : CallF) (a0 a1 a2 a3 : Value) (H : Heap) (Q : Value → Heap → Prop) : wFn tb nv k4 [a0, a1, a2, a3] H Q = (
    wP (.conv .u64) [a0] fun x0 =>
    wP (.bin .rem) [x0, (.int .u64 1073741824)] fun x1 =>
    wP (.conv .i64) [x1] fun x2 =>
    wP (.conv .u64) [a2] fun x3 =>
    wP (.bin .rem) [x3, (.int .u64 1048576)] fun x4 =>
    wP (.conv .i64) [x4] fun x5 =>
    wP (.conv .u64) [a3] fun x6 =>
    wP (.bin .rem) [x6, (.int .u64 1048576)] fun x7 =>
    wP (.conv .i64) [x7] fun x8 =>
    Ev tb nv 8 [] H fun x9 H10 =>
    wP (.un .not) [x9] fun x11 =>
    asB x11 fun b12 => onB b12 (Ev tb nv 8 [] H10 fun x13 H14 =>
    atK (Q x13 H14))
    (wP .lenS [a1] fun x15 =>
    wP (.bin .gtr) [x15, (.int .i64 200)] fun x16 =>
    asB x16 fun b17 => onB b17 (Ev tb nv 8 [] H10 fun x18 H19 =>
    atK (Q x18 H19))
    (Ev tb nv 9 [x2] H10 fun x20 H21 =>
    Ev tb nv 9 [x2] H21 fun x22 H23 =>
    wP .lenS [a1] fun x24 =>
    wLoop tb nv c4_9 [0, 2, 3, 9, 10, 39, 40, 41] (mkW [(0, x2), (2, x5), (3, x8), (9, x20), (10, x22), (39, a1), (40, x24), (41, (.int .i64 0))]) H23 (q4_1 tb nv Q)))) := by kernel_rfl
theorem l4_9 (tb : Nat → Option DFn) (nv : CallF) (t0 t2 t3 t9 t10 t39 t40 t41 : Value) (H : Heap) (K : Kont) : wC tb nv c4_9 (mkW [(0, t0), (2, t2), (3, t3), (9, t9), (10, t10), (39, t39), (40, t40), (41, t41)]) H K = (
    wP (.bin .lss) [t41, t40] fun x25 =>
    asB x25 fun b26 => onB b26 (wP (.iaddS 1) [t39, t41] fun x27 =>
    wR (.load 1 false) [x27] H fun x28 =>
    wP (.conv .u64) [x28] fun x29 =>
    wP (.bin .rem) [x29, (.int .u64 2147483648)] fun x30 =>
    wP (.conv .i64) [x30] fun x31 =>
    Ev tb nv 10 [t9, t41, x31] H fun x32 H33 =>
    Ev tb nv 10 [t10, t41, x31] H33 fun x34 H35 =>
    wP (.bin .add) [t41, (.int .i64 1)] fun x36 =>
    atK (K .normal (mkW [(0, t0), (2, t2), (3, t3), (9, t9), (10, t10), (39, t39), (40, t40), (41, x36)]) H35))
    (atK (K (.exit 0) (mkW [(0, t0), (2, t2), (3, t3), (9, t9), (10, t10)]) H))) := by kernel_rfl
theorem x4_9_0 (tb : Nat → Option DFn) (nv : CallF) (t0 t2 t3 t9 t10 : Value) (H : Heap) (Q : Value → Heap → Prop) : (q4_1 tb nv Q) (.exit 0) (mkW [(0, t0), (2, t2), (3, t3), (9, t9), (10, t10)]) H = (
    atK (w4_19 tb nv t0 t2 t3 t9 t10 H Q)) := by kernel_rfl
theorem e4_19 (tb : Nat → Option DFn) (nv : CallF) (t0 t2 t3 t9 t10 : Value) (H : Heap) (Q : Value → Heap → Prop) : w4_19 tb nv t0 t2 t3 t9 t10 H Q = (
    wP (.bin .add) [t0, t2] fun x37 =>
    wP (.bin .add) [x37, t3] fun x38 =>
    Ev tb nv 11 [t9, x38] H fun x39 H40 =>
    wP (.bin .add) [t0, t2] fun x41 =>
    Ev tb nv 11 [t10, x41] H40 fun x42 H43 =>
    wP (.bin .add) [t0, t2] fun x44 =>
    wP (.bin .add) [x44, t3] fun x45 =>
    Ev tb nv 11 [t10, x45] H43 fun x46 H47 =>
    wE (.app 2 16) [x42, x46] H47 fun x48 H49 =>
    Ev tb nv 12 [x39, x48] H49 fun x50 H51 =>
    asB x50 fun b52 => onB b52 (Ev tb nv 13 [t9, (.int .i64 1000)] H51 fun x53 H54 =>
    Ev tb nv 13 [t10, (.int .i64 1000)] H54 fun x55 H56 =>
    Ev tb nv 12 [x53, x55] H56 fun x57 H58 =>
    asB x57 fun b59 => onB b59 (Ev tb nv 14 [t9] H58 fun x60 H61 =>
    Ev tb nv 14 [t10] H61 fun x62 H63 =>
    wP (.bin .eql) [x60, x62] fun x64 =>
    atK (Q x64 H63))
    (atK (Q (.bool false) H58)))
    (atK (Q (.bool false) H51))) := by kernel_rfl

/-- tompion/tompionlaw06.WheelNext -/
def c5_55 : C := .ret
def c5_54 : C := (.keep [4] c5_55)
def c5_53 : C := (.seq (.region [
      ⟨(some 4), (.pure .mov), [.c (.bool true)], none⟩] false) c5_54)
def c5_18 : C := (.keep [] c5_53)
def c5_52 : C := .skip
def c5_21 : C := (.keep [5, 46] c5_52)
def c5_51 : C := (.region [
      ⟨(some 103), (.pure (.bin .add)), [.t 46, .c (.int .i64 (Int.ofNat 1))], none⟩,
      ⟨(some 46), (.pure .mov), [.t 103], none⟩] false)
def c5_25 : C := (.keep [5, 46] c5_51)
def c5_50 : C := .ret
def c5_49 : C := (.keep [4] c5_50)
def c5_48 : C := (.cond (.t 102) (.seq (.region [
      ⟨(some 4), (.pure .mov), [.c (.bool false)], none⟩] false) c5_49)
    .skip)
def c5_47 : C := (.seq (.region [
      ⟨(some 92), (.pure .mov), [.t 13], none⟩,
      ⟨(some 93), (.pure .lenS), [.t 92], none⟩,
      ⟨(some 94), (.pure (.bin .eql)), [.t 93, .c (.int .i64 (Int.ofNat 0))], none⟩,
      ⟨(some 95), (.pure .mov), [.t 94], none⟩,
      ⟨(some 96), (.pure .mov), [.t 13], (some (95, false))⟩,
      ⟨(some 97), (.pure (.iaddS 2)), [.t 96, .c (.int .i64 (Int.ofNat 0))], (some (95, false))⟩,
      ⟨(some 98), (.pure (.iaddA 2 1)), [.t 97, .c (.int .i64 (Int.ofNat 0))], (some (95, false))⟩,
      ⟨(some 99), (.read (.load 1 false) []), [.t 98], (some (95, false))⟩,
      ⟨(some 100), (.pure .mov), [.t 11], (some (95, false))⟩,
      ⟨(some 101), (.pure (.bin .neq)), [.t 99, .t 100], (some (95, false))⟩,
      ⟨(some 102), (.pure .pick), [.t 95, .c (.bool true), .t 101], none⟩] false) c5_48)
def c5_43 : C := (.seq (.region [
      ⟨(some 89), (.pure .mov), [.t 5], none⟩,
      ⟨(some 90), (.pure .mov), [.t 11], none⟩,
      ⟨(some 91), (.call 11), [.t 89, .t 90], none⟩,
      ⟨(some 13), (.pure .mov), [.t 91], none⟩] false) c5_47)
def c5_46 : C := .ret
def c5_45 : C := (.keep [4] c5_46)
def c5_44 : C := (.cond (.t 88) (.seq (.region [
      ⟨(some 4), (.pure .mov), [.c (.bool false)], none⟩] false) c5_45)
    .skip)
def c5_42 : C := (.seq (.seq (.region [
      ⟨(some 73), (.pure .mov), [.t 12], none⟩,
      ⟨(some 74), (.pure (.un .not)), [.t 73], none⟩,
      ⟨(some 75), (.pure .mov), [.t 74], none⟩,
      ⟨(some 76), (.pure .mov), [.t 11], (some (75, false))⟩,
      ⟨(some 77), (.pure .mov), [.t 5], (some (75, false))⟩,
      ⟨(some 78), (.call 14), [.t 77], (some (75, false))⟩,
      ⟨(some 79), (.pure (.bin .leq)), [.t 76, .t 78], (some (75, false))⟩,
      ⟨(some 80), (.pure .pick), [.t 75, .c (.bool true), .t 79], none⟩,
      ⟨(some 81), (.pure .mov), [.t 80], none⟩,
      ⟨(some 82), (.pure .mov), [.t 5], (some (81, false))⟩,
      ⟨(some 83), (.pure .mov), [.t 11], (some (81, false))⟩,
      ⟨(some 84), (.pure (.bin .sub)), [.t 83, .c (.int .i64 (Int.ofNat 1))], (some (81, false))⟩,
      ⟨(some 85), (.call 11), [.t 82, .t 84], (some (81, false))⟩,
      ⟨(some 86), (.pure .lenS), [.t 85], (some (81, false))⟩,
      ⟨(some 87), (.pure (.bin .neq)), [.t 86, .c (.int .i64 (Int.ofNat 0))], (some (81, false))⟩,
      ⟨(some 88), (.pure .pick), [.t 81, .c (.bool true), .t 87], none⟩] false) c5_44) c5_43)
def c5_41 : C := (.seq (.region [
      ⟨(some 69), (.pure .mov), [.t 5], none⟩,
      ⟨(some 70), (.call 17), [.t 69], none⟩,
      ⟨(some 68), (.pure .mov), [.t 70], none⟩,
      ⟨(some 71), (.pure (.extract 0)), [.t 68], none⟩,
      ⟨(some 72), (.pure (.extract 1)), [.t 68], none⟩,
      ⟨(some 11), (.pure .mov), [.t 71], none⟩,
      ⟨(some 12), (.pure .mov), [.t 72], none⟩] false) c5_42)
def c5_31 : C := (.keep [5, 46] c5_41)
def c5_40 : C := .skip
def c5_34 : C := (.keep [5, 46, 57, 58, 59] c5_40)
def c5_38 : C := (.region [
      ⟨(some 67), (.pure (.bin .add)), [.t 59, .c (.int .i64 (Int.ofNat 1))], none⟩,
      ⟨(some 59), (.pure .mov), [.t 67], none⟩] false)
def c5_39 : C := (.region [
      ⟨(some 63), (.pure .mov), [.t 5], none⟩,
      ⟨(some 64), (.pure (.iaddA 2 1)), [.t 10, .c (.int .i64 (Int.ofNat 1))], none⟩,
      ⟨(some 65), (.read (.load 1 false) []), [.t 64], none⟩,
      ⟨(some 66), (.call 16), [.t 63, .t 65], none⟩] false)
def c5_36 : C := (.seq (.block 5 (.seq (.region [
      ⟨(some 61), (.pure (.iaddS 2)), [.t 57, .t 59], none⟩,
      ⟨(some 62), (.read (.load 2 true) []), [.t 61], none⟩,
      ⟨(some 10), (.alloc (.alloc [(.int .i64 (Int.ofNat 0)), (.int .i64 (Int.ofNat 0))])), [], none⟩,
      ⟨none, (.eff (.store 2)), [.t 10, .t 62], none⟩] false) c5_39)) c5_38)
def c5_37 : C := (.exit 4)
def c5_35 : C := (.seq (.cond (.t 60) .skip
    (.keep [5, 46] c5_37)) c5_36)
def c5_33 : C := (.seq (.seq (.region [
      ⟨(some 60), (.pure (.bin .lss)), [.t 59, .t 58], none⟩] false) c5_35) c5_34)
def c5_32 : C := (.block 4 (.loop (some [5, 46, 57, 58, 59]) c5_33))
def c5_27 : C := (.seq (.seq (.region [
      ⟨(some 56), (.pure .mov), [.t 5], none⟩,
      ⟨(some 57), (.call 13), [.t 56, .c (.int .i64 (Int.ofNat 1000))], none⟩,
      ⟨(some 58), (.pure .lenS), [.t 57], none⟩,
      ⟨(some 59), (.pure .mov), [.c (.int .i64 (Int.ofNat 0))], none⟩] false) c5_32) c5_31)
def c5_30 : C := .ret
def c5_29 : C := (.keep [4] c5_30)
def c5_28 : C := (.cond (.t 55) (.seq (.region [
      ⟨(some 4), (.pure .mov), [.c (.bool true)], none⟩] false) c5_29)
    .skip)
def c5_26 : C := (.seq (.seq (.region [
      ⟨(some 54), (.pure .mov), [.t 8], none⟩,
      ⟨(some 55), (.pure (.bin .eql)), [.t 54, .c (.int .i64 (Int.ofNat 0))], none⟩] false) c5_28) c5_27)
def c5_23 : C := (.seq (.block 3 (.seq (.region [
      ⟨(some 48), (.pure .mov), [.t 5], none⟩,
      ⟨(some 49), (.call 15), [.t 48], none⟩,
      ⟨(some 50), (.pure .mov), [.t 5], none⟩,
      ⟨(some 51), (.call 13), [.t 50, .c (.int .i64 (Int.ofNat 1000))], none⟩,
      ⟨(some 52), (.pure .lenS), [.t 51], none⟩,
      ⟨(some 53), (.pure (.bin .sub)), [.t 49, .t 52], none⟩,
      ⟨(some 8), (.pure .mov), [.t 53], none⟩] false) c5_26)) c5_25)
def c5_24 : C := (.exit 2)
def c5_22 : C := (.seq (.cond (.t 47) .skip
    (.keep [] c5_24)) c5_23)
def c5_20 : C := (.seq (.seq (.region [
      ⟨(some 47), (.pure (.bin .lss)), [.t 46, .c (.int .i64 (Int.ofNat 50))], none⟩] false) c5_22) c5_21)
def c5_19 : C := (.block 2 (.loop (some [5, 46]) c5_20))
def c5_17 : C := (.seq (.seq (.region [
      ⟨(some 46), (.pure .mov), [.c (.int .i64 (Int.ofNat 0))], none⟩] false) c5_19) c5_18)
def c5_7 : C := (.keep [5] c5_17)
def c5_16 : C := .skip
def c5_10 : C := (.keep [0, 5, 28, 29, 30] c5_16)
def c5_14 : C := (.region [
      ⟨(some 45), (.pure (.bin .add)), [.t 30, .c (.int .i64 (Int.ofNat 1))], none⟩,
      ⟨(some 30), (.pure .mov), [.t 45], none⟩] false)
def c5_15 : C := (.region [
      ⟨(some 35), (.pure .mov), [.t 5], none⟩,
      ⟨(some 36), (.pure .mov), [.t 6], none⟩,
      ⟨(some 37), (.pure .mov), [.t 0], none⟩,
      ⟨(some 38), (.pure (.bin .add)), [.t 37, .c (.int .i64 (Int.ofNat 1))], none⟩,
      ⟨(some 39), (.pure .mov), [.t 7], none⟩,
      ⟨(some 40), (.pure (.conv .u64)), [.t 39], none⟩,
      ⟨(some 41), (.pure (.bin .rem)), [.t 40, .c (.int .u64 (Int.ofNat 137438953472))], none⟩,
      ⟨(some 42), (.pure (.conv .i64)), [.t 41], none⟩,
      ⟨(some 43), (.pure (.bin .add)), [.t 38, .t 42], none⟩,
      ⟨(some 44), (.call 10), [.t 35, .t 36, .t 43], none⟩] false)
def c5_12 : C := (.seq (.block 1 (.seq (.region [
      ⟨(some 32), (.pure .mov), [.t 30], none⟩,
      ⟨(some 33), (.pure (.iaddS 1)), [.t 28, .t 30], none⟩,
      ⟨(some 34), (.read (.load 1 false) []), [.t 33], none⟩,
      ⟨(some 6), (.pure .mov), [.t 32], none⟩,
      ⟨(some 7), (.pure .mov), [.t 34], none⟩] false) c5_15)) c5_14)
def c5_13 : C := (.exit 0)
def c5_11 : C := (.seq (.cond (.t 31) .skip
    (.keep [5] c5_13)) c5_12)
def c5_9 : C := (.seq (.seq (.region [
      ⟨(some 31), (.pure (.bin .lss)), [.t 30, .t 29], none⟩] false) c5_11) c5_10)
def c5_8 : C := (.block 0 (.loop (some [0, 5, 28, 29, 30]) c5_9))
def c5_6 : C := (.seq (.seq (.region [
      ⟨(some 28), (.pure .mov), [.t 1], none⟩,
      ⟨(some 29), (.pure .lenS), [.t 28], none⟩,
      ⟨(some 30), (.pure .mov), [.c (.int .i64 (Int.ofNat 0))], none⟩] false) c5_8) c5_7)
def c5_2 : C := (.seq (.region [
      ⟨(some 26), (.pure .mov), [.t 0], none⟩,
      ⟨(some 27), (.call 9), [.t 26], none⟩,
      ⟨(some 5), (.pure .mov), [.t 27], none⟩] false) c5_6)
def c5_5 : C := .ret
def c5_4 : C := (.keep [4] c5_5)
def c5_3 : C := (.cond (.t 24) (.seq (.region [
      ⟨(some 25), (.call 8), [], none⟩,
      ⟨(some 4), (.pure .mov), [.t 25], none⟩] false) c5_4)
    .skip)
def c5_1 : C := (.seq (.seq (.region [
      ⟨(some 18), (.call 8), [], none⟩,
      ⟨(some 19), (.pure (.un .not)), [.t 18], none⟩,
      ⟨(some 20), (.pure .mov), [.t 19], none⟩,
      ⟨(some 21), (.pure .mov), [.t 1], (some (20, false))⟩,
      ⟨(some 22), (.pure .lenS), [.t 21], (some (20, false))⟩,
      ⟨(some 23), (.pure (.bin .gtr)), [.t 22, .c (.int .i64 (Int.ofNat 200))], (some (20, false))⟩,
      ⟨(some 24), (.pure .pick), [.t 20, .c (.bool true), .t 23], none⟩] false) c5_3) c5_2)
def c5_0 : C := (.seq (.region [
      ⟨(some 14), (.pure .mov), [.t 0], none⟩,
      ⟨(some 15), (.pure (.conv .u64)), [.t 14], none⟩,
      ⟨(some 16), (.pure (.bin .rem)), [.t 15, .c (.int .u64 (Int.ofNat 274877906944))], none⟩,
      ⟨(some 17), (.pure (.conv .i64)), [.t 16], none⟩,
      ⟨(some 0), (.pure .mov), [.t 17], none⟩] false) c5_1)
def k5 : DFn := ⟨104, (.seq (.region [
      ⟨(some 4), (.pure .mov), [.c (.bool false)], none⟩] false) c5_0), [.tmp 4]⟩
theorem c5 : (match Tryd.prog.funcs[5]? with | some fn => compileFn Tryd.prog 1 [none, none, none, none, none, some [4], none, some [5], none, some [0, 5, 28, 29, 30], none, none, some [5], none, none, some [], none, some [5, 46], none, none, some [], some [5, 46], none, none, none, none, some [4], some [5, 46], none, some [5, 46, 57, 58, 59], none, none, some [5, 46], none, none, none, none, none, none, some [4], none, none, none, some [4], none, some [4]] fn | none => none) = some k5 := by kernel_rfl
def q5_0 (tb : Nat → Option DFn) (nv : CallF) (Q : Value → Heap → Prop) : Kont := kSeq (fun wf H => wC tb nv c5_7 wf H (kFn [.tmp 4] Q)) (kFn [.tmp 4] Q)
def q5_1 (tb : Nat → Option DFn) (nv : CallF) (Q : Value → Heap → Prop) : Kont := kBlk 0 (q5_0 tb nv Q)
def q5_2 (tb : Nat → Option DFn) (nv : CallF) (Q : Value → Heap → Prop) : Kont := kSeq (fun wf H => wC tb nv c5_18 wf H (kFn [.tmp 4] Q)) (kFn [.tmp 4] Q)
def q5_3 (tb : Nat → Option DFn) (nv : CallF) (Q : Value → Heap → Prop) : Kont := kBlk 2 (q5_2 tb nv Q)
def q5_4 (tb : Nat → Option DFn) (nv : CallF) (K : Kont) : Kont := kSeq (fun wf H => wC tb nv c5_21 wf H K) K
def q5_5 (tb : Nat → Option DFn) (nv : CallF) (K : Kont) : Kont := kSeq (fun wf H => wC tb nv c5_25 wf H (q5_4 tb nv K)) (q5_4 tb nv K)
def q5_6 (tb : Nat → Option DFn) (nv : CallF) (K : Kont) : Kont := kBlk 3 (q5_5 tb nv K)
def q5_7 (tb : Nat → Option DFn) (nv : CallF) (K : Kont) : Kont := kSeq (fun wf H => wC tb nv c5_31 wf H (q5_6 tb nv K)) (q5_6 tb nv K)
def q5_8 (tb : Nat → Option DFn) (nv : CallF) (K : Kont) : Kont := kBlk 4 (q5_7 tb nv K)
def w5_17 (tb : Nat → Option DFn) (nv : CallF) (t5 : Value) (H : Heap) (Q : Value → Heap → Prop) : Prop := wC tb nv c5_17 (mkW [(5, t5)]) H (kFn [.tmp 4] Q)
def w5_53 (tb : Nat → Option DFn) (nv : CallF) (H : Heap) (Q : Value → Heap → Prop) : Prop := wC tb nv c5_53 (mkW []) H (kFn [.tmp 4] Q)
def w5_41 (tb : Nat → Option DFn) (nv : CallF) (t5 t46 : Value) (H : Heap) (K : Kont) : Prop := wC tb nv c5_41 (mkW [(5, t5), (46, t46)]) H (q5_6 tb nv K)
def w5_51 (tb : Nat → Option DFn) (nv : CallF) (t5 t46 : Value) (H : Heap) (K : Kont) : Prop := wC tb nv c5_51 (mkW [(5, t5), (46, t46)]) H (q5_4 tb nv K)
theorem e5 (tb : Nat → Option DFn) (nv : CallF) (a0 a1 : Value) (H : Heap) (Q : Value → Heap → Prop) : wFn tb nv k5 [a0, a1] H Q = (
    wP (.conv .u64) [a0] fun x0 =>
    wP (.bin .rem) [x0, (.int .u64 274877906944)] fun x1 =>
    wP (.conv .i64) [x1] fun x2 =>
    Ev tb nv 8 [] H fun x3 H4 =>
    wP (.un .not) [x3] fun x5 =>
    asB x5 fun b6 => onB b6 (Ev tb nv 8 [] H4 fun x7 H8 =>
    atK (Q x7 H8))
    (wP .lenS [a1] fun x9 =>
    wP (.bin .gtr) [x9, (.int .i64 200)] fun x10 =>
    asB x10 fun b11 => onB b11 (Ev tb nv 8 [] H4 fun x12 H13 =>
    atK (Q x12 H13))
    (Ev tb nv 9 [x2] H4 fun x14 H15 =>
    wP .lenS [a1] fun x16 =>
    wLoop tb nv c5_9 [0, 5, 28, 29, 30] (mkW [(0, x2), (5, x14), (28, a1), (29, x16), (30, (.int .i64 0))]) H15 (q5_1 tb nv Q)))) := by kernel_rfl
theorem l5_9 (tb : Nat → Option DFn) (nv : CallF) (t0 t5 t28 t29 t30 : Value) (H : Heap) (K : Kont) : wC tb nv c5_9 (mkW [(0, t0), (5, t5), (28, t28), (29, t29), (30, t30)]) H K = (
    wP (.bin .lss) [t30, t29] fun x17 =>
    asB x17 fun b18 => onB b18 (wP (.iaddS 1) [t28, t30] fun x19 =>
    wR (.load 1 false) [x19] H fun x20 =>
    wP (.bin .add) [t0, (.int .i64 1)] fun x21 =>
    wP (.conv .u64) [x20] fun x22 =>
    wP (.bin .rem) [x22, (.int .u64 137438953472)] fun x23 =>
    wP (.conv .i64) [x23] fun x24 =>
    wP (.bin .add) [x21, x24] fun x25 =>
    Ev tb nv 10 [t5, t30, x25] H fun x26 H27 =>
    wP (.bin .add) [t30, (.int .i64 1)] fun x28 =>
    atK (K .normal (mkW [(0, t0), (5, t5), (28, t28), (29, t29), (30, x28)]) H27))
    (atK (K (.exit 0) (mkW [(5, t5)]) H))) := by kernel_rfl
theorem x5_9_0 (tb : Nat → Option DFn) (nv : CallF) (t5 : Value) (H : Heap) (Q : Value → Heap → Prop) : (q5_1 tb nv Q) (.exit 0) (mkW [(5, t5)]) H = (
    atK (w5_17 tb nv t5 H Q)) := by kernel_rfl
theorem e5_17 (tb : Nat → Option DFn) (nv : CallF) (t5 : Value) (H : Heap) (Q : Value → Heap → Prop) : w5_17 tb nv t5 H Q = (
    wLoop tb nv c5_20 [5, 46] (mkW [(5, t5), (46, (.int .i64 0))]) H (q5_3 tb nv Q)) := by kernel_rfl
theorem l5_20 (tb : Nat → Option DFn) (nv : CallF) (t5 t46 : Value) (H : Heap) (K : Kont) : wC tb nv c5_20 (mkW [(5, t5), (46, t46)]) H K = (
    wP (.bin .lss) [t46, (.int .i64 50)] fun x29 =>
    asB x29 fun b30 => onB b30 (Ev tb nv 15 [t5] H fun x31 H32 =>
    Ev tb nv 13 [t5, (.int .i64 1000)] H32 fun x33 H34 =>
    wP .lenS [x33] fun x35 =>
    wP (.bin .sub) [x31, x35] fun x36 =>
    wP (.bin .eql) [x36, (.int .i64 0)] fun x37 =>
    asB x37 fun b38 => onB b38 (atK (K .ret (mkW [(4, (.bool true))]) H34))
    (Ev tb nv 13 [t5, (.int .i64 1000)] H34 fun x39 H40 =>
    wP .lenS [x39] fun x41 =>
    wLoop tb nv c5_33 [5, 46, 57, 58, 59] (mkW [(5, t5), (46, t46), (57, x39), (58, x41), (59, (.int .i64 0))]) H40 (q5_8 tb nv K)))
    (atK (K (.exit 2) (mkW []) H))) := by kernel_rfl
theorem x5_20_0 (tb : Nat → Option DFn) (nv : CallF) (t4 : Value) (H : Heap) (Q : Value → Heap → Prop) : (q5_3 tb nv Q) .ret (mkW [(4, t4)]) H = (
    Q t4 H) := by kernel_rfl
theorem x5_20_1 (tb : Nat → Option DFn) (nv : CallF) (H : Heap) (Q : Value → Heap → Prop) : (q5_3 tb nv Q) (.exit 2) (mkW []) H = (
    atK (w5_53 tb nv  H Q)) := by kernel_rfl
theorem e5_53 (tb : Nat → Option DFn) (nv : CallF) (H : Heap) (Q : Value → Heap → Prop) : w5_53 tb nv  H Q = (
    atK (Q (.bool true) H)) := by kernel_rfl
theorem l5_33 (tb : Nat → Option DFn) (nv : CallF) (t5 t46 t57 t58 t59 : Value) (H : Heap) (K : Kont) : wC tb nv c5_33 (mkW [(5, t5), (46, t46), (57, t57), (58, t58), (59, t59)]) H K = (
    wP (.bin .lss) [t59, t58] fun x42 =>
    asB x42 fun b43 => onB b43 (wP (.iaddS 2) [t57, t59] fun x44 =>
    wR (.load 2 true) [x44] H fun x45 =>
    wA (.alloc [(.int .i64 0), (.int .i64 0)]) [] H fun x46 H47 =>
    wE (.store 2) [x46, x45] H47 fun x48 H49 =>
    wP (.iaddA 2 1) [x46, (.int .i64 1)] fun x50 =>
    wR (.load 1 false) [x50] H49 fun x51 =>
    Ev tb nv 16 [t5, x51] H49 fun x52 H53 =>
    wP (.bin .add) [t59, (.int .i64 1)] fun x54 =>
    atK (K .normal (mkW [(5, t5), (46, t46), (57, t57), (58, t58), (59, x54)]) H53))
    (atK (K (.exit 4) (mkW [(5, t5), (46, t46)]) H))) := by kernel_rfl
theorem x5_33_0 (tb : Nat → Option DFn) (nv : CallF) (t5 t46 : Value) (H : Heap) (K : Kont) : (q5_8 tb nv K) (.exit 4) (mkW [(5, t5), (46, t46)]) H = (
    atK (w5_41 tb nv t5 t46 H K)) := by kernel_rfl
theorem e5_41 (tb : Nat → Option DFn) (nv : CallF) (t5 t46 : Value) (H : Heap) (K : Kont) : w5_41 tb nv t5 t46 H K = (
    Ev tb nv 17 [t5] H fun x55 H56 =>
    wP (.extract 0) [x55] fun x57 =>
    wP (.extract 1) [x55] fun x58 =>
    wP (.un .not) [x58] fun x59 =>
    asB x59 fun b60 => onB b60 (atK (K .ret (mkW [(4, (.bool false))]) H56))
    (Ev tb nv 14 [t5] H56 fun x61 H62 =>
    wP (.bin .leq) [x57, x61] fun x63 =>
    asB x63 fun b64 => onB b64 (atK (K .ret (mkW [(4, (.bool false))]) H62))
    (wP (.bin .sub) [x57, (.int .i64 1)] fun x65 =>
    Ev tb nv 11 [t5, x65] H62 fun x66 H67 =>
    wP .lenS [x66] fun x68 =>
    wP (.bin .neq) [x68, (.int .i64 0)] fun x69 =>
    asB x69 fun b70 => onB b70 (atK (K .ret (mkW [(4, (.bool false))]) H67))
    (Ev tb nv 11 [t5, x57] H67 fun x71 H72 =>
    wP .lenS [x71] fun x73 =>
    wP (.bin .eql) [x73, (.int .i64 0)] fun x74 =>
    asB x74 fun b75 => onB b75 (atK (K .ret (mkW [(4, (.bool false))]) H72))
    (wP (.iaddS 2) [x71, (.int .i64 0)] fun x76 =>
    wP (.iaddA 2 1) [x76, (.int .i64 0)] fun x77 =>
    wR (.load 1 false) [x77] H72 fun x78 =>
    wP (.bin .neq) [x78, x57] fun x79 =>
    asB x79 fun b80 => onB b80 (atK (K .ret (mkW [(4, (.bool false))]) H72))
    (atK (w5_51 tb nv t5 t46 H72 K))))))) := by kernel_rfl
theorem e5_51 (tb : Nat → Option DFn) (nv : CallF) (t5 t46 : Value) (H : Heap) (K : Kont) : w5_51 tb nv t5 t46 H K = (
    wP (.bin .add) [t46, (.int .i64 1)] fun x81 =>
    atK (K .normal (mkW [(5, t5), (46, x81)]) H)) := by kernel_rfl

/-- tompion/tompionlaw06.WheelPlays -/
def c6_65 : C := .ret
def c6_64 : C := (.keep [4] c6_65)
def c6_63 : C := (.seq (.region [
      ⟨(some 4), (.pure .mov), [.c (.bool true)], none⟩] false) c6_64)
def c6_6 : C := (.keep [] c6_63)
def c6_62 : C := .skip
def c6_9 : C := (.keep [5, 6, 27, 28, 29] c6_62)
def c6_61 : C := (.region [
      ⟨(some 195), (.pure (.bin .add)), [.t 29, .c (.int .i64 (Int.ofNat 1))], none⟩,
      ⟨(some 29), (.pure .mov), [.t 195], none⟩] false)
def c6_13 : C := (.keep [5, 6, 27, 28, 29] c6_61)
def c6_60 : C := .ret
def c6_59 : C := (.keep [4] c6_60)
def c6_58 : C := (.cond (.t 194) (.seq (.region [
      ⟨(some 4), (.pure .mov), [.c (.bool false)], none⟩] false) c6_59)
    .skip)
def c6_57 : C := (.seq (.region [
      ⟨(some 184), (.pure .mov), [.t 11], none⟩,
      ⟨(some 185), (.pure .mov), [.t 12], none⟩,
      ⟨(some 186), (.pure (.boolEq true)), [.t 184, .t 185], none⟩,
      ⟨(some 187), (.pure .mov), [.t 186], none⟩,
      ⟨(some 188), (.pure .mov), [.t 11], (some (187, false))⟩,
      ⟨(some 189), (.pure (.un .not)), [.t 188], (some (187, false))⟩,
      ⟨(some 190), (.pure .mov), [.t 189], (some (187, false))⟩,
      ⟨(some 191), (.pure .mov), [.t 10], (some (190, true))⟩,
      ⟨(some 192), (.pure (.bin .neq)), [.t 191, .c (.int .i64 (Int.ofNat 0))], (some (190, true))⟩,
      ⟨(some 193), (.pure .pick), [.t 190, .t 192, .c (.bool false)], (some (187, false))⟩,
      ⟨(some 194), (.pure .pick), [.t 187, .c (.bool true), .t 193], none⟩] false) c6_58)
def c6_47 : C := (.keep [5, 6, 10, 11, 12, 27, 28, 29] c6_57)
def c6_56 : C := .skip
def c6_50 : C := (.keep [5, 6, 8, 10, 11, 12, 27, 28, 29, 163, 164, 165] c6_56)
def c6_54 : C := (.region [
      ⟨(some 183), (.pure (.bin .add)), [.t 165, .c (.int .i64 (Int.ofNat 1))], none⟩,
      ⟨(some 165), (.pure .mov), [.t 183], none⟩] false)
def c6_55 : C := (.region [
      ⟨(some 169), (.pure .mov), [.t 12], none⟩,
      ⟨(some 170), (.pure .mov), [.t 169], none⟩,
      ⟨(some 171), (.pure (.fadd 0)), [.t 14], (some (170, false))⟩,
      ⟨(some 172), (.read (.load 1 false) []), [.t 171], (some (170, false))⟩,
      ⟨(some 173), (.pure (.fadd 1)), [.t 8], (some (170, false))⟩,
      ⟨(some 174), (.read (.load 1 false) []), [.t 173], (some (170, false))⟩,
      ⟨(some 175), (.pure (.bin .eql)), [.t 172, .t 174], (some (170, false))⟩,
      ⟨(some 176), (.pure .mov), [.t 175], (some (170, false))⟩,
      ⟨(some 177), (.pure (.fadd 1)), [.t 14], (some (176, true))⟩,
      ⟨(some 178), (.read (.load 1 false) []), [.t 177], (some (176, true))⟩,
      ⟨(some 179), (.pure .mov), [.t 10], (some (176, true))⟩,
      ⟨(some 180), (.pure (.bin .eql)), [.t 178, .t 179], (some (176, true))⟩,
      ⟨(some 181), (.pure .pick), [.t 176, .t 180, .c (.bool false)], (some (170, false))⟩,
      ⟨(some 182), (.pure .pick), [.t 170, .c (.bool true), .t 181], none⟩,
      ⟨(some 12), (.pure .mov), [.t 182], none⟩] false)
def c6_52 : C := (.seq (.block 4 (.seq (.region [
      ⟨(some 167), (.pure (.iaddS 2)), [.t 163, .t 165], none⟩,
      ⟨(some 168), (.read (.load 2 true) []), [.t 167], none⟩,
      ⟨(some 14), (.alloc (.alloc [(.int .i64 (Int.ofNat 0)), (.int .i64 (Int.ofNat 0))])), [], none⟩,
      ⟨none, (.eff (.store 2)), [.t 14, .t 168], none⟩] false) c6_55)) c6_54)
def c6_53 : C := (.exit 3)
def c6_51 : C := (.seq (.cond (.t 166) .skip
    (.keep [5, 6, 10, 11, 12, 27, 28, 29] c6_53)) c6_52)
def c6_49 : C := (.seq (.seq (.region [
      ⟨(some 166), (.pure (.bin .lss)), [.t 165, .t 164], none⟩] false) c6_51) c6_50)
def c6_48 : C := (.block 3 (.loop (some [5, 6, 8, 10, 11, 12, 27, 28, 29, 163, 164, 165]) c6_49))
def c6_46 : C := (.seq (.seq (.region [
      ⟨(some 160), (.pure .mov), [.t 6], none⟩,
      ⟨(some 161), (.pure .nilchk), [.t 160], none⟩,
      ⟨(some 162), (.pure (.fadd 1)), [.t 161], none⟩,
      ⟨(some 163), (.read (.load 1 false) []), [.t 162], none⟩,
      ⟨(some 164), (.pure .lenS), [.t 163], none⟩,
      ⟨(some 165), (.pure .mov), [.c (.int .i64 (Int.ofNat 0))], none⟩] false) c6_48) c6_47)
def c6_45 : C := (.seq (.region [
      ⟨(some 12), (.pure .mov), [.c (.bool false)], none⟩] false) c6_46)
def c6_41 : C := (.seq (.region [
      ⟨(some 154), (.pure .mov), [.t 5], none⟩,
      ⟨(some 155), (.pure (.fadd 1)), [.t 8], none⟩,
      ⟨(some 156), (.read (.load 1 false) []), [.t 155], none⟩,
      ⟨(some 157), (.call 23), [.t 154, .t 156], none⟩,
      ⟨(some 153), (.pure .mov), [.t 157], none⟩,
      ⟨(some 158), (.pure (.extract 0)), [.t 153], none⟩,
      ⟨(some 159), (.pure (.extract 1)), [.t 153], none⟩,
      ⟨(some 10), (.pure .mov), [.t 158], none⟩,
      ⟨(some 11), (.pure .mov), [.t 159], none⟩] false) c6_45)
def c6_44 : C := .ret
def c6_43 : C := (.keep [4] c6_44)
def c6_42 : C := (.cond (.t 152) (.seq (.region [
      ⟨(some 4), (.pure .mov), [.c (.bool false)], none⟩] false) c6_43)
    .skip)
def c6_40 : C := (.seq (.seq (.region [
      ⟨(some 104), (.pure .mov), [.t 5], none⟩,
      ⟨(some 105), (.call 14), [.t 104], none⟩,
      ⟨(some 106), (.pure .mov), [.t 6], none⟩,
      ⟨(some 107), (.pure .nilchk), [.t 106], none⟩,
      ⟨(some 108), (.pure (.fadd 0)), [.t 107], none⟩,
      ⟨(some 109), (.read (.load 1 false) [1]), [.t 108], none⟩,
      ⟨(some 110), (.pure (.bin .neq)), [.t 105, .t 109], none⟩,
      ⟨(some 111), (.pure .mov), [.t 110], none⟩,
      ⟨(some 112), (.pure .mov), [.t 5], (some (111, false))⟩,
      ⟨(some 113), (.call 15), [.t 112], (some (111, false))⟩,
      ⟨(some 114), (.pure .mov), [.t 6], (some (111, false))⟩,
      ⟨(some 115), (.pure .nilchk), [.t 114], (some (111, false))⟩,
      ⟨(some 116), (.pure (.fadd 1)), [.t 115], (some (111, false))⟩,
      ⟨(some 117), (.read (.load 1 false) [9]), [.t 116], (some (111, false))⟩,
      ⟨(some 118), (.pure .lenS), [.t 117], (some (111, false))⟩,
      ⟨(some 119), (.pure (.bin .neq)), [.t 113, .t 118], (some (111, false))⟩,
      ⟨(some 120), (.pure .pick), [.t 111, .c (.bool true), .t 119], none⟩,
      ⟨(some 121), (.pure .mov), [.t 120], none⟩,
      ⟨(some 122), (.pure .mov), [.t 11], (some (121, false))⟩,
      ⟨(some 123), (.pure .mov), [.t 6], (some (121, false))⟩,
      ⟨(some 124), (.pure .nilchk), [.t 123], (some (121, false))⟩,
      ⟨(some 125), (.pure (.fadd 1)), [.t 124], (some (121, false))⟩,
      ⟨(some 126), (.read (.load 1 false) []), [.t 125], (some (121, false))⟩,
      ⟨(some 127), (.pure .lenS), [.t 126], (some (121, false))⟩,
      ⟨(some 128), (.pure (.bin .gtr)), [.t 127, .c (.int .i64 (Int.ofNat 0))], (some (121, false))⟩,
      ⟨(some 129), (.pure (.boolEq true)), [.t 122, .t 128], (some (121, false))⟩,
      ⟨(some 130), (.pure .pick), [.t 121, .c (.bool true), .t 129], none⟩,
      ⟨(some 131), (.pure .mov), [.t 130], none⟩,
      ⟨(some 132), (.pure .mov), [.t 11], (some (131, false))⟩,
      ⟨(some 133), (.pure .mov), [.t 132], (some (131, false))⟩,
      ⟨(some 134), (.pure .mov), [.t 10], (some (133, true))⟩,
      ⟨(some 135), (.pure .mov), [.t 6], (some (133, true))⟩,
      ⟨(some 136), (.pure .nilchk), [.t 135], (some (133, true))⟩,
      ⟨(some 137), (.pure (.fadd 1)), [.t 136], (some (133, true))⟩,
      ⟨(some 138), (.read (.load 1 false) []), [.t 137], (some (133, true))⟩,
      ⟨(some 139), (.pure (.iaddS 2)), [.t 138, .c (.int .i64 (Int.ofNat 0))], (some (133, true))⟩,
      ⟨(some 140), (.pure (.fadd 1)), [.t 139], (some (133, true))⟩,
      ⟨(some 141), (.read (.load 1 false) []), [.t 140], (some (133, true))⟩,
      ⟨(some 142), (.pure (.bin .neq)), [.t 134, .t 141], (some (133, true))⟩,
      ⟨(some 143), (.pure .pick), [.t 133, .t 142, .c (.bool false)], (some (131, false))⟩,
      ⟨(some 144), (.pure .pick), [.t 131, .c (.bool true), .t 143], none⟩,
      ⟨(some 145), (.pure .mov), [.t 144], none⟩,
      ⟨(some 146), (.pure .mov), [.t 11], (some (145, false))⟩,
      ⟨(some 147), (.pure (.un .not)), [.t 146], (some (145, false))⟩,
      ⟨(some 148), (.pure .mov), [.t 147], (some (145, false))⟩,
      ⟨(some 149), (.pure .mov), [.t 10], (some (148, true))⟩,
      ⟨(some 150), (.pure (.bin .neq)), [.t 149, .c (.int .i64 (Int.ofNat 0))], (some (148, true))⟩,
      ⟨(some 151), (.pure .pick), [.t 148, .t 150, .c (.bool false)], (some (145, false))⟩,
      ⟨(some 152), (.pure .pick), [.t 145, .c (.bool true), .t 151], none⟩] true) c6_42) c6_41)
def c6_39 : C := (.seq (.region [
      ⟨(some 100), (.pure .mov), [.t 5], none⟩,
      ⟨(some 101), (.call 17), [.t 100], none⟩,
      ⟨(some 99), (.pure .mov), [.t 101], none⟩,
      ⟨(some 102), (.pure (.extract 0)), [.t 99], none⟩,
      ⟨(some 103), (.pure (.extract 1)), [.t 99], none⟩,
      ⟨(some 10), (.pure .mov), [.t 102], none⟩,
      ⟨(some 11), (.pure .mov), [.t 103], none⟩] false) c6_40)
def c6_15 : C := (.keep [5, 6, 8, 27, 28, 29] c6_39)
def c6_20 : C := .ret
def c6_19 : C := (.keep [4] c6_20)
def c6_18 : C := (.cond (.t 49) (.seq (.region [
      ⟨(some 4), (.pure .mov), [.c (.bool false)], none⟩] false) c6_19)
    .skip)
def c6_24 : C := .ret
def c6_23 : C := (.keep [4] c6_24)
def c6_22 : C := (.cond (.t 60) (.seq (.region [
      ⟨(some 4), (.pure .mov), [.c (.bool false)], none⟩] false) c6_23)
    .skip)
def c6_34 : C := .ret
def c6_33 : C := (.keep [4] c6_34)
def c6_32 : C := (.cond (.t 86) (.seq (.region [
      ⟨(some 4), (.pure .mov), [.c (.bool false)], none⟩] false) c6_33)
    .skip)
def c6_31 : C := (.seq (.region [
      ⟨(some 79), (.pure .mov), [.t 5], none⟩,
      ⟨(some 80), (.pure .mov), [.t 9], none⟩,
      ⟨(some 81), (.call 11), [.t 79, .t 80], none⟩,
      ⟨(some 82), (.pure .mov), [.t 6], none⟩,
      ⟨(some 83), (.pure .mov), [.t 9], none⟩,
      ⟨(some 84), (.call 21), [.t 82, .t 83], none⟩,
      ⟨(some 85), (.call 12), [.t 81, .t 84], none⟩,
      ⟨(some 86), (.pure (.un .not)), [.t 85], none⟩] false) c6_32)
def c6_29 : C := (.keep [5, 6, 8, 9, 27, 28, 29] c6_31)
def c6_30 : C := (.cond (.t 68) (.region [
      ⟨(some 69), (.pure .mov), [.t 6], none⟩,
      ⟨(some 70), (.pure .nilchk), [.t 69], none⟩,
      ⟨(some 71), (.pure (.fadd 0)), [.t 70], none⟩,
      ⟨(some 72), (.read (.load 1 false) []), [.t 71], none⟩,
      ⟨(some 73), (.pure (.fadd 2)), [.t 8], none⟩,
      ⟨(some 74), (.read (.load 1 false) []), [.t 73], none⟩,
      ⟨(some 75), (.pure (.conv .u64)), [.t 74], none⟩,
      ⟨(some 76), (.pure (.bin .rem)), [.t 75, .c (.int .u64 (Int.ofNat 1000000))], none⟩,
      ⟨(some 77), (.pure (.conv .i64)), [.t 76], none⟩,
      ⟨(some 78), (.pure (.bin .add)), [.t 72, .t 77], none⟩,
      ⟨(some 9), (.pure .mov), [.t 78], none⟩] false)
    .skip)
def c6_28 : C := (.seq (.seq (.region [
      ⟨(some 66), (.pure (.fadd 0)), [.t 8], none⟩,
      ⟨(some 67), (.read (.load 1 false) []), [.t 66], none⟩,
      ⟨(some 68), (.pure (.bin .eql)), [.t 67, .c (.int .i64 (Int.ofNat 4))], none⟩] false) c6_30) c6_29)
def c6_38 : C := .ret
def c6_37 : C := (.keep [4] c6_38)
def c6_36 : C := (.cond (.t 98) (.seq (.region [
      ⟨(some 4), (.pure .mov), [.c (.bool false)], none⟩] false) c6_37)
    .skip)
def c6_35 : C := (.cond (.t 87) (.seq (.region [
      ⟨(some 89), (.pure .mov), [.t 5], none⟩,
      ⟨(some 90), (.pure (.fadd 2)), [.t 8], none⟩,
      ⟨(some 91), (.read (.load 1 false) []), [.t 90], none⟩,
      ⟨(some 92), (.call 13), [.t 89, .t 91], none⟩,
      ⟨(some 93), (.pure .mov), [.t 6], none⟩,
      ⟨(some 94), (.pure (.fadd 2)), [.t 8], none⟩,
      ⟨(some 95), (.read (.load 1 false) [3]), [.t 94], none⟩,
      ⟨(some 96), (.call 22), [.t 93, .t 95], none⟩,
      ⟨(some 97), (.call 12), [.t 92, .t 96], none⟩,
      ⟨(some 98), (.pure (.un .not)), [.t 97], none⟩] true) c6_36)
    .skip)
def c6_27 : C := (.cond (.t 61) (.seq (.region [
      ⟨(some 64), (.pure (.fadd 2)), [.t 8], none⟩,
      ⟨(some 65), (.read (.load 1 false) []), [.t 64], none⟩,
      ⟨(some 9), (.pure .mov), [.t 65], none⟩] false) c6_28)
    (.seq (.region [
      ⟨(some 88), (.pure (.bin .eql)), [.t 34, .c (.int .i64 (Int.ofNat 5))], none⟩,
      ⟨(some 87), (.pure .mov), [.t 88], none⟩] false) c6_35))
def c6_25 : C := (.keep [5, 6, 8, 27, 28, 29, 34, 61] c6_27)
def c6_26 : C := (.cond (.t 61) .skip
    (.region [
      ⟨(some 63), (.pure (.bin .eql)), [.t 34, .c (.int .i64 (Int.ofNat 4))], none⟩,
      ⟨(some 61), (.pure .mov), [.t 63], none⟩] false))
def c6_21 : C := (.cond (.t 50) (.seq (.region [
      ⟨(some 52), (.pure .mov), [.t 5], none⟩,
      ⟨(some 53), (.pure (.fadd 1)), [.t 8], none⟩,
      ⟨(some 54), (.read (.load 1 false) []), [.t 53], none⟩,
      ⟨(some 55), (.call 16), [.t 52, .t 54], none⟩,
      ⟨(some 56), (.pure .mov), [.t 6], none⟩,
      ⟨(some 57), (.pure (.fadd 1)), [.t 8], none⟩,
      ⟨(some 58), (.read (.load 1 false) [3]), [.t 57], none⟩,
      ⟨(some 59), (.call 20), [.t 56, .t 58], none⟩,
      ⟨(some 60), (.pure (.boolEq true)), [.t 55, .t 59], none⟩] true) c6_22)
    (.seq (.seq (.region [
      ⟨(some 62), (.pure (.bin .eql)), [.t 34, .c (.int .i64 (Int.ofNat 3))], none⟩,
      ⟨(some 61), (.pure .mov), [.t 62], none⟩] false) c6_26) c6_25))
def c6_17 : C := (.cond (.t 35) (.seq (.region [
      ⟨(some 37), (.pure .mov), [.t 5], none⟩,
      ⟨(some 38), (.pure (.fadd 1)), [.t 8], none⟩,
      ⟨(some 39), (.read (.load 1 false) []), [.t 38], none⟩,
      ⟨(some 40), (.pure (.fadd 2)), [.t 8], none⟩,
      ⟨(some 41), (.read (.load 1 false) []), [.t 40], none⟩,
      ⟨(some 42), (.call 10), [.t 37, .t 39, .t 41], none⟩,
      ⟨(some 43), (.pure .mov), [.t 6], none⟩,
      ⟨(some 44), (.pure (.fadd 1)), [.t 8], none⟩,
      ⟨(some 45), (.read (.load 1 false) [5]), [.t 44], none⟩,
      ⟨(some 46), (.pure (.fadd 2)), [.t 8], none⟩,
      ⟨(some 47), (.read (.load 1 false) [5]), [.t 46], none⟩,
      ⟨(some 48), (.call 19), [.t 43, .t 45, .t 47], none⟩,
      ⟨(some 49), (.pure (.bin .neq)), [.t 42, .t 48], none⟩] true) c6_18)
    (.seq (.region [
      ⟨(some 51), (.pure (.bin .eql)), [.t 34, .c (.int .i64 (Int.ofNat 2))], none⟩,
      ⟨(some 50), (.pure .mov), [.t 51], none⟩] false) c6_21))
def c6_16 : C := (.block 2 (.seq (.region [
      ⟨(some 36), (.pure (.bin .eql)), [.t 34, .c (.int .i64 (Int.ofNat 1))], none⟩,
      ⟨(some 35), (.pure .mov), [.t 36], none⟩] false) c6_17))
def c6_14 : C := (.seq (.seq (.region [
      ⟨(some 33), (.pure (.fadd 0)), [.t 8], none⟩,
      ⟨(some 34), (.read (.load 1 false) []), [.t 33], none⟩] false) c6_16) c6_15)
def c6_11 : C := (.seq (.block 1 (.seq (.region [
      ⟨(some 31), (.pure (.iaddS 3)), [.t 27, .t 29], none⟩,
      ⟨(some 32), (.read (.load 3 true) []), [.t 31], none⟩,
      ⟨(some 8), (.alloc (.alloc [(.int .i64 (Int.ofNat 0)), (.int .i64 (Int.ofNat 0)), (.int .i64 (Int.ofNat 0))])), [], none⟩,
      ⟨none, (.eff (.store 3)), [.t 8, .t 32], none⟩] false) c6_14)) c6_13)
def c6_12 : C := (.exit 0)
def c6_10 : C := (.seq (.cond (.t 30) .skip
    (.keep [] c6_12)) c6_11)
def c6_8 : C := (.seq (.seq (.region [
      ⟨(some 30), (.pure (.bin .lss)), [.t 29, .t 28], none⟩] false) c6_10) c6_9)
def c6_7 : C := (.block 0 (.loop (some [5, 6, 27, 28, 29]) c6_8))
def c6_5 : C := (.seq (.seq (.region [
      ⟨(some 27), (.pure .mov), [.t 1], none⟩,
      ⟨(some 28), (.pure .lenS), [.t 27], none⟩,
      ⟨(some 29), (.pure .mov), [.c (.int .i64 (Int.ofNat 0))], none⟩] false) c6_7) c6_6)
def c6_1 : C := (.seq (.region [
      ⟨(some 23), (.pure .mov), [.t 0], none⟩,
      ⟨(some 24), (.call 9), [.t 23], none⟩,
      ⟨(some 25), (.pure .mov), [.t 0], none⟩,
      ⟨(some 26), (.call 18), [.t 25], none⟩,
      ⟨(some 5), (.pure .mov), [.t 24], none⟩,
      ⟨(some 6), (.pure .mov), [.t 26], none⟩] false) c6_5)
def c6_4 : C := .ret
def c6_3 : C := (.keep [4] c6_4)
def c6_2 : C := (.cond (.t 21) (.seq (.region [
      ⟨(some 22), (.call 8), [], none⟩,
      ⟨(some 4), (.pure .mov), [.t 22], none⟩] false) c6_3)
    .skip)
def c6_0 : C := (.seq (.seq (.region [
      ⟨(some 15), (.call 8), [], none⟩,
      ⟨(some 16), (.pure (.un .not)), [.t 15], none⟩,
      ⟨(some 17), (.pure .mov), [.t 16], none⟩,
      ⟨(some 18), (.pure .mov), [.t 1], (some (17, false))⟩,
      ⟨(some 19), (.pure .lenS), [.t 18], (some (17, false))⟩,
      ⟨(some 20), (.pure (.bin .gtr)), [.t 19, .c (.int .i64 (Int.ofNat 400))], (some (17, false))⟩,
      ⟨(some 21), (.pure .pick), [.t 17, .c (.bool true), .t 20], none⟩] false) c6_2) c6_1)
def k6 : DFn := ⟨196, (.seq (.region [
      ⟨(some 4), (.pure .mov), [.c (.bool false)], none⟩] false) c6_0), [.tmp 4]⟩
theorem c6 : (match Tryd.prog.funcs[6]? with | some fn => compileFn Tryd.prog 1 [none, none, none, none, some [4], none, some [], none, some [5, 6, 27, 28, 29], none, none, some [], some [5, 6, 27, 28, 29], none, some [5, 6, 8, 27, 28, 29], none, none, none, none, some [4], none, none, none, some [4], some [5, 6, 8, 27, 28, 29, 34, 61], none, none, some [5, 6, 8, 9, 27, 28, 29], none, none, none, some [4], none, none, none, some [4], none, none, none, none, some [4], none, none, some [5, 6, 10, 11, 12, 27, 28, 29], none, some [5, 6, 8, 10, 11, 12, 27, 28, 29, 163, 164, 165], none, none, some [5, 6, 10, 11, 12, 27, 28, 29], none, none, none, none, some [4], none, some [4]] fn | none => none) = some k6 := by kernel_rfl
def q6_0 (tb : Nat → Option DFn) (nv : CallF) (Q : Value → Heap → Prop) : Kont := kSeq (fun wf H => wC tb nv c6_6 wf H (kFn [.tmp 4] Q)) (kFn [.tmp 4] Q)
def q6_1 (tb : Nat → Option DFn) (nv : CallF) (Q : Value → Heap → Prop) : Kont := kBlk 0 (q6_0 tb nv Q)
def q6_2 (tb : Nat → Option DFn) (nv : CallF) (K : Kont) : Kont := kSeq (fun wf H => wC tb nv c6_9 wf H K) K
def q6_3 (tb : Nat → Option DFn) (nv : CallF) (K : Kont) : Kont := kSeq (fun wf H => wC tb nv c6_13 wf H (q6_2 tb nv K)) (q6_2 tb nv K)
def q6_4 (tb : Nat → Option DFn) (nv : CallF) (K : Kont) : Kont := kBlk 1 (q6_3 tb nv K)
def q6_5 (tb : Nat → Option DFn) (nv : CallF) (K : Kont) : Kont := kSeq (fun wf H => wC tb nv c6_47 wf H (q6_4 tb nv K)) (q6_4 tb nv K)
def q6_6 (tb : Nat → Option DFn) (nv : CallF) (K : Kont) : Kont := kBlk 3 (q6_5 tb nv K)
def q6_7 (tb : Nat → Option DFn) (nv : CallF) (K : Kont) : Kont := kSeq (fun wf H => wC tb nv c6_15 wf H (q6_4 tb nv K)) (q6_4 tb nv K)
def q6_8 (tb : Nat → Option DFn) (nv : CallF) (K : Kont) : Kont := kBlk 2 (q6_7 tb nv K)
def w6_39 (tb : Nat → Option DFn) (nv : CallF) (t5 t6 t8 t27 t28 t29 : Value) (H : Heap) (K : Kont) : Prop := wC tb nv c6_39 (mkW [(5, t5), (6, t6), (8, t8), (27, t27), (28, t28), (29, t29)]) H (q6_4 tb nv K)
def w6_27 (tb : Nat → Option DFn) (nv : CallF) (t5 t6 t8 t27 t28 t29 t34 t61 : Value) (H : Heap) (K : Kont) : Prop := wC tb nv c6_27 (mkW [(5, t5), (6, t6), (8, t8), (27, t27), (28, t28), (29, t29), (34, t34), (61, t61)]) H (q6_8 tb nv K)
def w6_63 (tb : Nat → Option DFn) (nv : CallF) (H : Heap) (Q : Value → Heap → Prop) : Prop := wC tb nv c6_63 (mkW []) H (kFn [.tmp 4] Q)
def w6_31 (tb : Nat → Option DFn) (nv : CallF) (t5 t6 t8 t9 t27 t28 t29 : Value) (H : Heap) (K : Kont) : Prop := wC tb nv c6_31 (mkW [(5, t5), (6, t6), (8, t8), (9, t9), (27, t27), (28, t28), (29, t29)]) H (q6_8 tb nv K)
def w6_57 (tb : Nat → Option DFn) (nv : CallF) (t5 t6 t10 t11 t12 t27 t28 t29 : Value) (H : Heap) (K : Kont) : Prop := wC tb nv c6_57 (mkW [(5, t5), (6, t6), (10, t10), (11, t11), (12, t12), (27, t27), (28, t28), (29, t29)]) H (q6_4 tb nv K)
def w6_61 (tb : Nat → Option DFn) (nv : CallF) (t5 t6 t27 t28 t29 : Value) (H : Heap) (K : Kont) : Prop := wC tb nv c6_61 (mkW [(5, t5), (6, t6), (27, t27), (28, t28), (29, t29)]) H (q6_2 tb nv K)
theorem e6 (tb : Nat → Option DFn) (nv : CallF) (a0 a1 : Value) (H : Heap) (Q : Value → Heap → Prop) : wFn tb nv k6 [a0, a1] H Q = (
    Ev tb nv 8 [] H fun x0 H1 =>
    wP (.un .not) [x0] fun x2 =>
    asB x2 fun b3 => onB b3 (Ev tb nv 8 [] H1 fun x4 H5 =>
    atK (Q x4 H5))
    (wP .lenS [a1] fun x6 =>
    wP (.bin .gtr) [x6, (.int .i64 400)] fun x7 =>
    asB x7 fun b8 => onB b8 (Ev tb nv 8 [] H1 fun x9 H10 =>
    atK (Q x9 H10))
    (Ev tb nv 9 [a0] H1 fun x11 H12 =>
    Ev tb nv 18 [a0] H12 fun x13 H14 =>
    wP .lenS [a1] fun x15 =>
    wLoop tb nv c6_8 [5, 6, 27, 28, 29] (mkW [(5, x11), (6, x13), (27, a1), (28, x15), (29, (.int .i64 0))]) H14 (q6_1 tb nv Q)))) := by kernel_rfl
theorem l6_8 (tb : Nat → Option DFn) (nv : CallF) (t5 t6 t27 t28 t29 : Value) (H : Heap) (K : Kont) : wC tb nv c6_8 (mkW [(5, t5), (6, t6), (27, t27), (28, t28), (29, t29)]) H K = (
    wP (.bin .lss) [t29, t28] fun x16 =>
    asB x16 fun b17 => onB b17 (wP (.iaddS 3) [t27, t29] fun x18 =>
    wR (.load 3 true) [x18] H fun x19 =>
    wA (.alloc [(.int .i64 0), (.int .i64 0), (.int .i64 0)]) [] H fun x20 H21 =>
    wE (.store 3) [x20, x19] H21 fun x22 H23 =>
    wP (.fadd 0) [x20] fun x24 =>
    wR (.load 1 false) [x24] H23 fun x25 =>
    wP (.bin .eql) [x25, (.int .i64 1)] fun x26 =>
    asB x26 fun b27 => onB b27 (wP (.fadd 1) [x20] fun x28 =>
    wR (.load 1 false) [x28] H23 fun x29 =>
    wP (.fadd 2) [x20] fun x30 =>
    wR (.load 1 false) [x30] H23 fun x31 =>
    Ev tb nv 10 [t5, x29, x31] H23 fun x32 H33 =>
    wP (.fadd 1) [x20] fun x34 =>
    wR (.load 1 false) [x34] H33 fun x35 =>
    wP (.fadd 2) [x20] fun x36 =>
    wR (.load 1 false) [x36] H33 fun x37 =>
    Ev tb nv 19 [t6, x35, x37] H33 fun x38 H39 =>
    wP (.bin .neq) [x32, x38] fun x40 =>
    wChk [H23, H23, H23, H23, H23, H23, H33, H33, H33, H33, H33, H33, H39, H39] [⟨(.load 1 false), [x34], x35, [5]⟩, ⟨(.load 1 false), [x36], x37, [5]⟩] (asB x40 fun b41 => onB b41 (atK (K .ret (mkW [(4, (.bool false))]) H39))
    (atK (w6_39 tb nv t5 t6 x20 t27 t28 t29 H39 K))))
    (wP (.bin .eql) [x25, (.int .i64 2)] fun x42 =>
    asB x42 fun b43 => onB b43 (wP (.fadd 1) [x20] fun x44 =>
    wR (.load 1 false) [x44] H23 fun x45 =>
    Ev tb nv 16 [t5, x45] H23 fun x46 H47 =>
    wP (.fadd 1) [x20] fun x48 =>
    wR (.load 1 false) [x48] H47 fun x49 =>
    Ev tb nv 20 [t6, x49] H47 fun x50 H51 =>
    wP (.boolEq true) [x46, x50] fun x52 =>
    wChk [H23, H23, H23, H23, H47, H47, H47, H47, H51, H51] [⟨(.load 1 false), [x48], x49, [3]⟩] (asB x52 fun b53 => onB b53 (atK (K .ret (mkW [(4, (.bool false))]) H51))
    (atK (w6_39 tb nv t5 t6 x20 t27 t28 t29 H51 K))))
    (wP (.bin .eql) [x25, (.int .i64 3)] fun x54 =>
    asB x54 fun b55 => onB b55 (atK (w6_27 tb nv t5 t6 x20 t27 t28 t29 x25 (.bool true) H23 K))
    (wP (.bin .eql) [x25, (.int .i64 4)] fun x56 =>
    atK (w6_27 tb nv t5 t6 x20 t27 t28 t29 x25 x56 H23 K)))))
    (atK (K (.exit 0) (mkW []) H))) := by kernel_rfl
theorem x6_8_0 (tb : Nat → Option DFn) (nv : CallF) (t4 : Value) (H : Heap) (Q : Value → Heap → Prop) : (q6_1 tb nv Q) .ret (mkW [(4, t4)]) H = (
    Q t4 H) := by kernel_rfl
theorem x6_8_1 (tb : Nat → Option DFn) (nv : CallF) (H : Heap) (Q : Value → Heap → Prop) : (q6_1 tb nv Q) (.exit 0) (mkW []) H = (
    atK (w6_63 tb nv  H Q)) := by kernel_rfl
theorem e6_39 (tb : Nat → Option DFn) (nv : CallF) (t5 t6 t8 t27 t28 t29 : Value) (H : Heap) (K : Kont) : w6_39 tb nv t5 t6 t8 t27 t28 t29 H K = (
    Ev tb nv 17 [t5] H fun x57 H58 =>
    wP (.extract 0) [x57] fun x59 =>
    wP (.extract 1) [x57] fun x60 =>
    Ev tb nv 14 [t5] H58 fun x61 H62 =>
    wP .nilchk [t6] fun x63 =>
    wP (.fadd 0) [x63] fun x64 =>
    wR (.load 1 false) [x64] H62 fun x65 =>
    wP (.bin .neq) [x61, x65] fun x66 =>
    asB x66 fun b67 => onB b67 (wChk [H58, H58, H62, H62, H62, H62, H62, H62, H62, H62, H62, H62, H62, H62, H62, H62, H62, H62, H62, H62, H62, H62, H62, H62, H62, H62, H62, H62, H62, H62, H62, H62, H62, H62, H62, H62, H62, H62, H62, H62, H62, H62, H62, H62, H62, H62, H62, H62, H62, H62] [⟨(.load 1 false), [x64], x65, [1]⟩] (atK (K .ret (mkW [(4, (.bool false))]) H62)))
    (Ev tb nv 15 [t5] H62 fun x68 H69 =>
    wP .nilchk [t6] fun x70 =>
    wP (.fadd 1) [x70] fun x71 =>
    wR (.load 1 false) [x71] H69 fun x72 =>
    wP .lenS [x72] fun x73 =>
    wP (.bin .neq) [x68, x73] fun x74 =>
    asB x74 fun b75 => onB b75 (wChk [H58, H58, H62, H62, H62, H62, H62, H62, H62, H62, H69, H69, H69, H69, H69, H69, H69, H69, H69, H69, H69, H69, H69, H69, H69, H69, H69, H69, H69, H69, H69, H69, H69, H69, H69, H69, H69, H69, H69, H69, H69, H69, H69, H69, H69, H69, H69, H69, H69, H69] [⟨(.load 1 false), [x64], x65, [1]⟩, ⟨(.load 1 false), [x71], x72, [9]⟩] (atK (K .ret (mkW [(4, (.bool false))]) H69)))
    (wP .nilchk [t6] fun x76 =>
    wP (.fadd 1) [x76] fun x77 =>
    wR (.load 1 false) [x77] H69 fun x78 =>
    wP .lenS [x78] fun x79 =>
    wP (.bin .gtr) [x79, (.int .i64 0)] fun x80 =>
    wP (.boolEq true) [x60, x80] fun x81 =>
    asB x81 fun b82 => onB b82 (wChk [H58, H58, H62, H62, H62, H62, H62, H62, H62, H62, H69, H69, H69, H69, H69, H69, H69, H69, H69, H69, H69, H69, H69, H69, H69, H69, H69, H69, H69, H69, H69, H69, H69, H69, H69, H69, H69, H69, H69, H69, H69, H69, H69, H69, H69, H69, H69, H69, H69, H69] [⟨(.load 1 false), [x64], x65, [1]⟩, ⟨(.load 1 false), [x71], x72, [9]⟩] (atK (K .ret (mkW [(4, (.bool false))]) H69)))
    (asB x60 fun b83 => onB b83 (wP .nilchk [t6] fun x84 =>
    wP (.fadd 1) [x84] fun x85 =>
    wR (.load 1 false) [x85] H69 fun x86 =>
    wP (.iaddS 2) [x86, (.int .i64 0)] fun x87 =>
    wP (.fadd 1) [x87] fun x88 =>
    wR (.load 1 false) [x88] H69 fun x89 =>
    wP (.bin .neq) [x59, x89] fun x90 =>
    asB x90 fun b91 => onB b91 (wChk [H58, H58, H62, H62, H62, H62, H62, H62, H62, H62, H69, H69, H69, H69, H69, H69, H69, H69, H69, H69, H69, H69, H69, H69, H69, H69, H69, H69, H69, H69, H69, H69, H69, H69, H69, H69, H69, H69, H69, H69, H69, H69, H69, H69, H69, H69, H69, H69, H69, H69] [⟨(.load 1 false), [x64], x65, [1]⟩, ⟨(.load 1 false), [x71], x72, [9]⟩] (atK (K .ret (mkW [(4, (.bool false))]) H69)))
    (wP (.un .not) [x60] fun x92 =>
    asB x92 fun b93 => onB b93 (wP (.bin .neq) [x59, (.int .i64 0)] fun x94 =>
    wChk [H58, H58, H62, H62, H62, H62, H62, H62, H62, H62, H69, H69, H69, H69, H69, H69, H69, H69, H69, H69, H69, H69, H69, H69, H69, H69, H69, H69, H69, H69, H69, H69, H69, H69, H69, H69, H69, H69, H69, H69, H69, H69, H69, H69, H69, H69, H69, H69, H69, H69] [⟨(.load 1 false), [x64], x65, [1]⟩, ⟨(.load 1 false), [x71], x72, [9]⟩] (asB x94 fun b95 => onB b95 (atK (K .ret (mkW [(4, (.bool false))]) H69))
    (wP (.fadd 1) [t8] fun x96 =>
    wR (.load 1 false) [x96] H69 fun x97 =>
    Ev tb nv 23 [t5, x97] H69 fun x98 H99 =>
    wP (.extract 0) [x98] fun x100 =>
    wP (.extract 1) [x98] fun x101 =>
    wP .nilchk [t6] fun x102 =>
    wP (.fadd 1) [x102] fun x103 =>
    wR (.load 1 false) [x103] H99 fun x104 =>
    wP .lenS [x104] fun x105 =>
    wLoop tb nv c6_49 [5, 6, 8, 10, 11, 12, 27, 28, 29, 163, 164, 165] (mkW [(5, t5), (6, t6), (8, t8), (10, x100), (11, x101), (12, (.bool false)), (27, t27), (28, t28), (29, t29), (163, x104), (164, x105), (165, (.int .i64 0))]) H99 (q6_6 tb nv K))))
    (wChk [H58, H58, H62, H62, H62, H62, H62, H62, H62, H62, H69, H69, H69, H69, H69, H69, H69, H69, H69, H69, H69, H69, H69, H69, H69, H69, H69, H69, H69, H69, H69, H69, H69, H69, H69, H69, H69, H69, H69, H69, H69, H69, H69, H69, H69, H69, H69, H69, H69, H69] [⟨(.load 1 false), [x64], x65, [1]⟩, ⟨(.load 1 false), [x71], x72, [9]⟩] (wP (.fadd 1) [t8] fun x106 =>
    wR (.load 1 false) [x106] H69 fun x107 =>
    Ev tb nv 23 [t5, x107] H69 fun x108 H109 =>
    wP (.extract 0) [x108] fun x110 =>
    wP (.extract 1) [x108] fun x111 =>
    wP .nilchk [t6] fun x112 =>
    wP (.fadd 1) [x112] fun x113 =>
    wR (.load 1 false) [x113] H109 fun x114 =>
    wP .lenS [x114] fun x115 =>
    wLoop tb nv c6_49 [5, 6, 8, 10, 11, 12, 27, 28, 29, 163, 164, 165] (mkW [(5, t5), (6, t6), (8, t8), (10, x110), (11, x111), (12, (.bool false)), (27, t27), (28, t28), (29, t29), (163, x114), (164, x115), (165, (.int .i64 0))]) H109 (q6_6 tb nv K)))))
    (wP (.un .not) [x60] fun x116 =>
    asB x116 fun b117 => onB b117 (wP (.bin .neq) [x59, (.int .i64 0)] fun x118 =>
    wChk [H58, H58, H62, H62, H62, H62, H62, H62, H62, H62, H69, H69, H69, H69, H69, H69, H69, H69, H69, H69, H69, H69, H69, H69, H69, H69, H69, H69, H69, H69, H69, H69, H69, H69, H69, H69, H69, H69, H69, H69, H69, H69, H69, H69, H69, H69, H69, H69, H69, H69] [⟨(.load 1 false), [x64], x65, [1]⟩, ⟨(.load 1 false), [x71], x72, [9]⟩] (asB x118 fun b119 => onB b119 (atK (K .ret (mkW [(4, (.bool false))]) H69))
    (wP (.fadd 1) [t8] fun x120 =>
    wR (.load 1 false) [x120] H69 fun x121 =>
    Ev tb nv 23 [t5, x121] H69 fun x122 H123 =>
    wP (.extract 0) [x122] fun x124 =>
    wP (.extract 1) [x122] fun x125 =>
    wP .nilchk [t6] fun x126 =>
    wP (.fadd 1) [x126] fun x127 =>
    wR (.load 1 false) [x127] H123 fun x128 =>
    wP .lenS [x128] fun x129 =>
    wLoop tb nv c6_49 [5, 6, 8, 10, 11, 12, 27, 28, 29, 163, 164, 165] (mkW [(5, t5), (6, t6), (8, t8), (10, x124), (11, x125), (12, (.bool false)), (27, t27), (28, t28), (29, t29), (163, x128), (164, x129), (165, (.int .i64 0))]) H123 (q6_6 tb nv K))))
    (wChk [H58, H58, H62, H62, H62, H62, H62, H62, H62, H62, H69, H69, H69, H69, H69, H69, H69, H69, H69, H69, H69, H69, H69, H69, H69, H69, H69, H69, H69, H69, H69, H69, H69, H69, H69, H69, H69, H69, H69, H69, H69, H69, H69, H69, H69, H69, H69, H69, H69, H69] [⟨(.load 1 false), [x64], x65, [1]⟩, ⟨(.load 1 false), [x71], x72, [9]⟩] (wP (.fadd 1) [t8] fun x130 =>
    wR (.load 1 false) [x130] H69 fun x131 =>
    Ev tb nv 23 [t5, x131] H69 fun x132 H133 =>
    wP (.extract 0) [x132] fun x134 =>
    wP (.extract 1) [x132] fun x135 =>
    wP .nilchk [t6] fun x136 =>
    wP (.fadd 1) [x136] fun x137 =>
    wR (.load 1 false) [x137] H133 fun x138 =>
    wP .lenS [x138] fun x139 =>
    wLoop tb nv c6_49 [5, 6, 8, 10, 11, 12, 27, 28, 29, 163, 164, 165] (mkW [(5, t5), (6, t6), (8, t8), (10, x134), (11, x135), (12, (.bool false)), (27, t27), (28, t28), (29, t29), (163, x138), (164, x139), (165, (.int .i64 0))]) H133 (q6_6 tb nv K)))))))) := by kernel_rfl
theorem e6_27 (tb : Nat → Option DFn) (nv : CallF) (t5 t6 t8 t27 t28 t29 t34 t61 : Value) (H : Heap) (K : Kont) : w6_27 tb nv t5 t6 t8 t27 t28 t29 t34 t61 H K = (
    asB t61 fun b140 => onB b140 (wP (.fadd 2) [t8] fun x141 =>
    wR (.load 1 false) [x141] H fun x142 =>
    wP (.fadd 0) [t8] fun x143 =>
    wR (.load 1 false) [x143] H fun x144 =>
    wP (.bin .eql) [x144, (.int .i64 4)] fun x145 =>
    asB x145 fun b146 => onB b146 (wP .nilchk [t6] fun x147 =>
    wP (.fadd 0) [x147] fun x148 =>
    wR (.load 1 false) [x148] H fun x149 =>
    wP (.fadd 2) [t8] fun x150 =>
    wR (.load 1 false) [x150] H fun x151 =>
    wP (.conv .u64) [x151] fun x152 =>
    wP (.bin .rem) [x152, (.int .u64 1000000)] fun x153 =>
    wP (.conv .i64) [x153] fun x154 =>
    wP (.bin .add) [x149, x154] fun x155 =>
    atK (w6_31 tb nv t5 t6 t8 x155 t27 t28 t29 H K))
    (atK (w6_31 tb nv t5 t6 t8 x142 t27 t28 t29 H K)))
    (wP (.bin .eql) [t34, (.int .i64 5)] fun x156 =>
    asB x156 fun b157 => onB b157 (wP (.fadd 2) [t8] fun x158 =>
    wR (.load 1 false) [x158] H fun x159 =>
    Ev tb nv 13 [t5, x159] H fun x160 H161 =>
    wP (.fadd 2) [t8] fun x162 =>
    wR (.load 1 false) [x162] H161 fun x163 =>
    Ev tb nv 22 [t6, x163] H161 fun x164 H165 =>
    Ev tb nv 12 [x160, x164] H165 fun x166 H167 =>
    wP (.un .not) [x166] fun x168 =>
    wChk [H, H, H, H, H161, H161, H161, H161, H165, H167, H167] [⟨(.load 1 false), [x162], x163, [3]⟩] (asB x168 fun b169 => onB b169 (atK (K .ret (mkW [(4, (.bool false))]) H167))
    (atK (w6_39 tb nv t5 t6 t8 t27 t28 t29 H167 K))))
    (atK (w6_39 tb nv t5 t6 t8 t27 t28 t29 H K)))) := by kernel_rfl
theorem e6_63 (tb : Nat → Option DFn) (nv : CallF) (H : Heap) (Q : Value → Heap → Prop) : w6_63 tb nv  H Q = (
    atK (Q (.bool true) H)) := by kernel_rfl
theorem e6_31 (tb : Nat → Option DFn) (nv : CallF) (t5 t6 t8 t9 t27 t28 t29 : Value) (H : Heap) (K : Kont) : w6_31 tb nv t5 t6 t8 t9 t27 t28 t29 H K = (
    Ev tb nv 11 [t5, t9] H fun x170 H171 =>
    Ev tb nv 21 [t6, t9] H171 fun x172 H173 =>
    Ev tb nv 12 [x170, x172] H173 fun x174 H175 =>
    wP (.un .not) [x174] fun x176 =>
    asB x176 fun b177 => onB b177 (atK (K .ret (mkW [(4, (.bool false))]) H175))
    (atK (w6_39 tb nv t5 t6 t8 t27 t28 t29 H175 K))) := by kernel_rfl
theorem l6_49 (tb : Nat → Option DFn) (nv : CallF) (t5 t6 t8 t10 t11 t12 t27 t28 t29 t163 t164 t165 : Value) (H : Heap) (K : Kont) : wC tb nv c6_49 (mkW [(5, t5), (6, t6), (8, t8), (10, t10), (11, t11), (12, t12), (27, t27), (28, t28), (29, t29), (163, t163), (164, t164), (165, t165)]) H K = (
    wP (.bin .lss) [t165, t164] fun x178 =>
    asB x178 fun b179 => onB b179 (wP (.iaddS 2) [t163, t165] fun x180 =>
    wR (.load 2 true) [x180] H fun x181 =>
    wA (.alloc [(.int .i64 0), (.int .i64 0)]) [] H fun x182 H183 =>
    wE (.store 2) [x182, x181] H183 fun x184 H185 =>
    asB t12 fun b186 => onB b186 (wP (.bin .add) [t165, (.int .i64 1)] fun x187 =>
    atK (K .normal (mkW [(5, t5), (6, t6), (8, t8), (10, t10), (11, t11), (12, (.bool true)), (27, t27), (28, t28), (29, t29), (163, t163), (164, t164), (165, x187)]) H185))
    (wP (.fadd 0) [x182] fun x188 =>
    wR (.load 1 false) [x188] H185 fun x189 =>
    wP (.fadd 1) [t8] fun x190 =>
    wR (.load 1 false) [x190] H185 fun x191 =>
    wP (.bin .eql) [x189, x191] fun x192 =>
    asB x192 fun b193 => onB b193 (wP (.fadd 1) [x182] fun x194 =>
    wR (.load 1 false) [x194] H185 fun x195 =>
    wP (.bin .eql) [x195, t10] fun x196 =>
    wP (.bin .add) [t165, (.int .i64 1)] fun x197 =>
    atK (K .normal (mkW [(5, t5), (6, t6), (8, t8), (10, t10), (11, t11), (12, x196), (27, t27), (28, t28), (29, t29), (163, t163), (164, t164), (165, x197)]) H185))
    (wP (.bin .add) [t165, (.int .i64 1)] fun x198 =>
    atK (K .normal (mkW [(5, t5), (6, t6), (8, t8), (10, t10), (11, t11), (12, (.bool false)), (27, t27), (28, t28), (29, t29), (163, t163), (164, t164), (165, x198)]) H185))))
    (atK (K (.exit 3) (mkW [(5, t5), (6, t6), (10, t10), (11, t11), (12, t12), (27, t27), (28, t28), (29, t29)]) H))) := by kernel_rfl
theorem x6_49_0 (tb : Nat → Option DFn) (nv : CallF) (t5 t6 t10 t11 t12 t27 t28 t29 : Value) (H : Heap) (K : Kont) : (q6_6 tb nv K) (.exit 3) (mkW [(5, t5), (6, t6), (10, t10), (11, t11), (12, t12), (27, t27), (28, t28), (29, t29)]) H = (
    atK (w6_57 tb nv t5 t6 t10 t11 t12 t27 t28 t29 H K)) := by kernel_rfl
theorem e6_57 (tb : Nat → Option DFn) (nv : CallF) (t5 t6 t10 t11 t12 t27 t28 t29 : Value) (H : Heap) (K : Kont) : w6_57 tb nv t5 t6 t10 t11 t12 t27 t28 t29 H K = (
    wP (.boolEq true) [t11, t12] fun x199 =>
    asB x199 fun b200 => onB b200 (atK (K .ret (mkW [(4, (.bool false))]) H))
    (wP (.un .not) [t11] fun x201 =>
    asB x201 fun b202 => onB b202 (wP (.bin .neq) [t10, (.int .i64 0)] fun x203 =>
    asB x203 fun b204 => onB b204 (atK (K .ret (mkW [(4, (.bool false))]) H))
    (atK (w6_61 tb nv t5 t6 t27 t28 t29 H K)))
    (atK (w6_61 tb nv t5 t6 t27 t28 t29 H K)))) := by kernel_rfl
theorem e6_61 (tb : Nat → Option DFn) (nv : CallF) (t5 t6 t27 t28 t29 : Value) (H : Heap) (K : Kont) : w6_61 tb nv t5 t6 t27 t28 t29 H K = (
    wP (.bin .add) [t29, (.int .i64 1)] fun x205 =>
    atK (K .normal (mkW [(5, t5), (6, t6), (27, t27), (28, t28), (29, x205)]) H)) := by kernel_rfl

/-- tompion/tompionlaw06.WheelNil -/
def c7_5 : C := .ret
def c7_4 : C := (.keep [4] c7_5)
def c7_3 : C := (.seq (.region [
      ⟨(some 21), (.call 8), [], none⟩,
      ⟨(some 22), (.pure .mov), [.t 21], none⟩,
      ⟨(some 23), (.pure .mov), [.t 5], (some (22, true))⟩,
      ⟨(some 24), (.pure .mov), [.t 0], (some (22, true))⟩,
      ⟨(some 25), (.pure .mov), [.t 1], (some (22, true))⟩,
      ⟨(some 26), (.call 10), [.t 23, .t 24, .t 25], (some (22, true))⟩,
      ⟨(some 27), (.pure (.bin .eql)), [.t 26, .c (.int .i64 (Int.ofNat 12))], (some (22, true))⟩,
      ⟨(some 28), (.pure .pick), [.t 22, .t 27, .c (.bool false)], none⟩,
      ⟨(some 29), (.pure .mov), [.t 28], none⟩,
      ⟨(some 30), (.pure .mov), [.t 5], (some (29, true))⟩,
      ⟨(some 31), (.pure .mov), [.t 0], (some (29, true))⟩,
      ⟨(some 32), (.call 16), [.t 30, .t 31], (some (29, true))⟩,
      ⟨(some 33), (.pure (.un .not)), [.t 32], (some (29, true))⟩,
      ⟨(some 34), (.pure .pick), [.t 29, .t 33, .c (.bool false)], none⟩,
      ⟨(some 35), (.pure .mov), [.t 34], none⟩,
      ⟨(some 36), (.pure .mov), [.t 7], (some (35, true))⟩,
      ⟨(some 37), (.pure (.un .not)), [.t 36], (some (35, true))⟩,
      ⟨(some 38), (.pure .pick), [.t 35, .t 37, .c (.bool false)], none⟩,
      ⟨(some 39), (.pure .mov), [.t 38], none⟩,
      ⟨(some 40), (.pure .mov), [.t 9], (some (39, true))⟩,
      ⟨(some 41), (.pure (.un .not)), [.t 40], (some (39, true))⟩,
      ⟨(some 42), (.pure .pick), [.t 39, .t 41, .c (.bool false)], none⟩,
      ⟨(some 43), (.pure .mov), [.t 42], none⟩,
      ⟨(some 44), (.pure .mov), [.t 5], (some (43, true))⟩,
      ⟨(some 45), (.pure .mov), [.t 1], (some (43, true))⟩,
      ⟨(some 46), (.call 13), [.t 44, .t 45], (some (43, true))⟩,
      ⟨(some 47), (.pure .lenS), [.t 46], (some (43, true))⟩,
      ⟨(some 48), (.pure (.bin .eql)), [.t 47, .c (.int .i64 (Int.ofNat 0))], (some (43, true))⟩,
      ⟨(some 49), (.pure .pick), [.t 43, .t 48, .c (.bool false)], none⟩,
      ⟨(some 50), (.pure .mov), [.t 49], none⟩,
      ⟨(some 51), (.pure .mov), [.t 5], (some (50, true))⟩,
      ⟨(some 52), (.pure .mov), [.t 1], (some (50, true))⟩,
      ⟨(some 53), (.call 11), [.t 51, .t 52], (some (50, true))⟩,
      ⟨(some 54), (.pure .lenS), [.t 53], (some (50, true))⟩,
      ⟨(some 55), (.pure (.bin .eql)), [.t 54, .c (.int .i64 (Int.ofNat 0))], (some (50, true))⟩,
      ⟨(some 56), (.pure .pick), [.t 50, .t 55, .c (.bool false)], none⟩,
      ⟨(some 57), (.pure .mov), [.t 56], none⟩,
      ⟨(some 58), (.pure .mov), [.t 5], (some (57, true))⟩,
      ⟨(some 59), (.call 14), [.t 58], (some (57, true))⟩,
      ⟨(some 60), (.pure (.bin .eql)), [.t 59, .c (.int .i64 (Int.ofNat 0))], (some (57, true))⟩,
      ⟨(some 61), (.pure .pick), [.t 57, .t 60, .c (.bool false)], none⟩,
      ⟨(some 62), (.pure .mov), [.t 61], none⟩,
      ⟨(some 63), (.pure .mov), [.t 5], (some (62, true))⟩,
      ⟨(some 64), (.call 15), [.t 63], (some (62, true))⟩,
      ⟨(some 65), (.pure (.bin .eql)), [.t 64, .c (.int .i64 (Int.ofNat 0))], (some (62, true))⟩,
      ⟨(some 66), (.pure .pick), [.t 62, .t 65, .c (.bool false)], none⟩,
      ⟨(some 4), (.pure .mov), [.t 66], none⟩] false) c7_4)
def c7_2 : C := (.seq (.region [
      ⟨(some 17), (.pure .mov), [.t 5], none⟩,
      ⟨(some 18), (.call 17), [.t 17], none⟩,
      ⟨(some 16), (.pure .mov), [.t 18], none⟩,
      ⟨(some 19), (.pure (.extract 0)), [.t 16], none⟩,
      ⟨(some 20), (.pure (.extract 1)), [.t 16], none⟩,
      ⟨(some 8), (.pure .mov), [.t 19], none⟩,
      ⟨(some 9), (.pure .mov), [.t 20], none⟩] false) c7_3)
def c7_1 : C := (.seq (.region [
      ⟨(some 11), (.pure .mov), [.t 5], none⟩,
      ⟨(some 12), (.pure .mov), [.t 0], none⟩,
      ⟨(some 13), (.call 23), [.t 11, .t 12], none⟩,
      ⟨(some 10), (.pure .mov), [.t 13], none⟩,
      ⟨(some 14), (.pure (.extract 0)), [.t 10], none⟩,
      ⟨(some 15), (.pure (.extract 1)), [.t 10], none⟩,
      ⟨(some 6), (.pure .mov), [.t 14], none⟩,
      ⟨(some 7), (.pure .mov), [.t 15], none⟩] false) c7_2)
def c7_0 : C := (.seq (.region [
      ⟨(some 5), (.pure .mov), [.c (.pointer none)], none⟩] false) c7_1)
def k7 : DFn := ⟨67, (.seq (.region [
      ⟨(some 4), (.pure .mov), [.c (.bool false)], none⟩] false) c7_0), [.tmp 4]⟩
theorem c7 : (match Tryd.prog.funcs[7]? with | some fn => compileFn Tryd.prog 1 [none, none, none, none, none, some [4]] fn | none => none) = some k7 := by kernel_rfl
theorem e7 (tb : Nat → Option DFn) (nv : CallF) (a0 a1 : Value) (H : Heap) (Q : Value → Heap → Prop) : wFn tb nv k7 [a0, a1] H Q = (
    Ev tb nv 23 [(.pointer none), a0] H fun x0 H1 =>
    wP (.extract 0) [x0] fun x2 =>
    wP (.extract 1) [x0] fun x3 =>
    Ev tb nv 17 [(.pointer none)] H1 fun x4 H5 =>
    wP (.extract 0) [x4] fun x6 =>
    wP (.extract 1) [x4] fun x7 =>
    Ev tb nv 8 [] H5 fun x8 H9 =>
    asB x8 fun b10 => onB b10 (Ev tb nv 10 [(.pointer none), a0, a1] H9 fun x11 H12 =>
    wP (.bin .eql) [x11, (.int .i64 12)] fun x13 =>
    asB x13 fun b14 => onB b14 (Ev tb nv 16 [(.pointer none), a0] H12 fun x15 H16 =>
    wP (.un .not) [x15] fun x17 =>
    asB x17 fun b18 => onB b18 (wP (.un .not) [x3] fun x19 =>
    asB x19 fun b20 => onB b20 (wP (.un .not) [x7] fun x21 =>
    asB x21 fun b22 => onB b22 (Ev tb nv 13 [(.pointer none), a1] H16 fun x23 H24 =>
    wP .lenS [x23] fun x25 =>
    wP (.bin .eql) [x25, (.int .i64 0)] fun x26 =>
    asB x26 fun b27 => onB b27 (Ev tb nv 11 [(.pointer none), a1] H24 fun x28 H29 =>
    wP .lenS [x28] fun x30 =>
    wP (.bin .eql) [x30, (.int .i64 0)] fun x31 =>
    asB x31 fun b32 => onB b32 (Ev tb nv 14 [(.pointer none)] H29 fun x33 H34 =>
    wP (.bin .eql) [x33, (.int .i64 0)] fun x35 =>
    asB x35 fun b36 => onB b36 (Ev tb nv 15 [(.pointer none)] H34 fun x37 H38 =>
    wP (.bin .eql) [x37, (.int .i64 0)] fun x39 =>
    atK (Q x39 H38))
    (atK (Q (.bool false) H34)))
    (atK (Q (.bool false) H29)))
    (atK (Q (.bool false) H24)))
    (atK (Q (.bool false) H16)))
    (atK (Q (.bool false) H16)))
    (atK (Q (.bool false) H16)))
    (atK (Q (.bool false) H12)))
    (atK (Q (.bool false) H9))) := by kernel_rfl

/-- tompion/tompionlaw06.awake -/
def c8_9 : C := .ret
def c8_8 : C := (.keep [0] c8_9)
def c8_7 : C := (.seq (.region [
      ⟨(some 23), (.pure .mov), [.t 2], none⟩,
      ⟨(some 24), (.pure (.bin .eql)), [.t 23, .c (.int .i64 (Int.ofNat 0))], none⟩,
      ⟨(some 25), (.pure .mov), [.t 24], none⟩,
      ⟨(some 26), (.pure .mov), [.t 3], (some (25, true))⟩,
      ⟨(some 27), (.pure (.bin .eql)), [.t 26, .c (.int .i64 (Int.ofNat 0))], (some (25, true))⟩,
      ⟨(some 28), (.pure .pick), [.t 25, .t 27, .c (.bool false)], none⟩,
      ⟨(some 29), (.pure .mov), [.t 28], none⟩,
      ⟨(some 30), (.pure .mov), [.t 4], (some (29, true))⟩,
      ⟨(some 31), (.pure (.bin .eql)), [.t 30, .c (.int .i64 (Int.ofNat 0))], (some (29, true))⟩,
      ⟨(some 32), (.pure .pick), [.t 29, .t 31, .c (.bool false)], none⟩,
      ⟨(some 33), (.pure .mov), [.t 32], none⟩,
      ⟨(some 34), (.pure .mov), [.t 5], (some (33, true))⟩,
      ⟨(some 35), (.pure (.build [(.int .i64 (Int.ofNat 0)), (.int .i64 (Int.ofNat 0))] [(0, 1), (1, 1)])), [.c (.int .i64 (Int.ofNat 5)), .c (.int .i64 (Int.ofNat 2))], (some (33, true))⟩,
      ⟨(some 36), (.alloc (.bslice [(.int .i64 (Int.ofNat 0)), (.int .i64 (Int.ofNat 0))] [(0, 2)] 2 1)), [.t 35], (some (33, true))⟩,
      ⟨(some 37), (.call 12), [.t 34, .t 36], (some (33, true))⟩,
      ⟨(some 38), (.pure .pick), [.t 33, .t 37, .c (.bool false)], none⟩,
      ⟨(some 39), (.pure .mov), [.t 38], none⟩,
      ⟨(some 40), (.pure .mov), [.t 6], (some (39, true))⟩,
      ⟨(some 41), (.pure (.build [(.int .i64 (Int.ofNat 0)), (.int .i64 (Int.ofNat 0))] [(0, 1), (1, 1)])), [.c (.int .i64 (Int.ofNat 70)), .c (.int .i64 (Int.ofNat 1))], (some (39, true))⟩,
      ⟨(some 42), (.pure (.build [(.int .i64 (Int.ofNat 0)), (.int .i64 (Int.ofNat 0))] [(0, 1), (1, 1)])), [.c (.int .i64 (Int.ofNat 70)), .c (.int .i64 (Int.ofNat 3))], (some (39, true))⟩,
      ⟨(some 43), (.alloc (.bslice [(.int .i64 (Int.ofNat 0)), (.int .i64 (Int.ofNat 0)), (.int .i64 (Int.ofNat 0)), (.int .i64 (Int.ofNat 0))] [(0, 2), (2, 2)] 2 2)), [.t 41, .t 42], (some (39, true))⟩,
      ⟨(some 44), (.call 12), [.t 40, .t 43], (some (39, true))⟩,
      ⟨(some 45), (.pure .pick), [.t 39, .t 44, .c (.bool false)], none⟩,
      ⟨(some 46), (.pure .mov), [.t 45], none⟩,
      ⟨(some 47), (.pure .mov), [.t 7], (some (46, true))⟩,
      ⟨(some 48), (.pure (.build [(.int .i64 (Int.ofNat 0)), (.int .i64 (Int.ofNat 0))] [(0, 1), (1, 1)])), [.c (.int .i64 (Int.ofNat 5)), .c (.int .i64 (Int.ofNat 2))], (some (46, true))⟩,
      ⟨(some 49), (.pure (.build [(.int .i64 (Int.ofNat 0)), (.int .i64 (Int.ofNat 0))] [(0, 1), (1, 1)])), [.c (.int .i64 (Int.ofNat 70)), .c (.int .i64 (Int.ofNat 1))], (some (46, true))⟩,
      ⟨(some 50), (.pure (.build [(.int .i64 (Int.ofNat 0)), (.int .i64 (Int.ofNat 0))] [(0, 1), (1, 1)])), [.c (.int .i64 (Int.ofNat 70)), .c (.int .i64 (Int.ofNat 3))], (some (46, true))⟩,
      ⟨(some 51), (.alloc (.bslice [(.int .i64 (Int.ofNat 0)), (.int .i64 (Int.ofNat 0)), (.int .i64 (Int.ofNat 0)), (.int .i64 (Int.ofNat 0)), (.int .i64 (Int.ofNat 0)), (.int .i64 (Int.ofNat 0))] [(0, 2), (2, 2), (4, 2)] 2 3)), [.t 48, .t 49, .t 50], (some (46, true))⟩,
      ⟨(some 52), (.call 12), [.t 47, .t 51], (some (46, true))⟩,
      ⟨(some 53), (.pure .pick), [.t 46, .t 52, .c (.bool false)], none⟩,
      ⟨(some 54), (.pure .mov), [.t 53], none⟩,
      ⟨(some 55), (.pure .mov), [.t 1], (some (54, true))⟩,
      ⟨(some 56), (.call 14), [.t 55], (some (54, true))⟩,
      ⟨(some 57), (.pure (.bin .eql)), [.t 56, .c (.int .i64 (Int.ofNat 5000))], (some (54, true))⟩,
      ⟨(some 58), (.pure .pick), [.t 54, .t 57, .c (.bool false)], none⟩,
      ⟨(some 59), (.pure .mov), [.t 58], none⟩,
      ⟨(some 60), (.pure .mov), [.t 1], (some (59, true))⟩,
      ⟨(some 61), (.call 10), [.t 60, .c (.int .i64 (Int.negSucc 0)), .c (.int .i64 (Int.ofNat 0))], (some (59, true))⟩,
      ⟨(some 62), (.pure (.bin .eql)), [.t 61, .c (.int .i64 (Int.ofNat 1))], (some (59, true))⟩,
      ⟨(some 63), (.pure .pick), [.t 59, .t 62, .c (.bool false)], none⟩,
      ⟨(some 64), (.pure .mov), [.t 63], none⟩,
      ⟨(some 65), (.pure .mov), [.t 1], (some (64, true))⟩,
      ⟨(some 66), (.call 15), [.t 65], (some (64, true))⟩,
      ⟨(some 67), (.pure (.bin .eql)), [.t 66, .c (.int .i64 (Int.ofNat 3))], (some (64, true))⟩,
      ⟨(some 68), (.pure .pick), [.t 64, .t 67, .c (.bool false)], none⟩,
      ⟨(some 0), (.pure .mov), [.t 68], none⟩] false) c8_8)
def c8_6 : C := (.seq (.region [
      ⟨(some 17), (.pure .mov), [.t 1], none⟩,
      ⟨(some 18), (.call 11), [.t 17, .c (.int .i64 (Int.ofNat 6))], none⟩,
      ⟨(some 19), (.pure .mov), [.t 1], none⟩,
      ⟨(some 20), (.call 11), [.t 19, .c (.int .i64 (Int.ofNat 5000))], none⟩,
      ⟨(some 21), (.pure .mov), [.t 1], none⟩,
      ⟨(some 22), (.call 13), [.t 21, .c (.int .i64 (Int.ofNat 9))], none⟩,
      ⟨(some 5), (.pure .mov), [.t 18], none⟩,
      ⟨(some 6), (.pure .mov), [.t 20], none⟩,
      ⟨(some 7), (.pure .mov), [.t 22], none⟩] false) c8_7)
def c8_2 : C := (.seq (.region [
      ⟨(some 11), (.pure .mov), [.t 1], none⟩,
      ⟨(some 12), (.call 10), [.t 11, .c (.int .i64 (Int.ofNat 1)), .c (.int .i64 (Int.ofNat 70))], none⟩,
      ⟨(some 13), (.pure .mov), [.t 1], none⟩,
      ⟨(some 14), (.call 10), [.t 13, .c (.int .i64 (Int.ofNat 2)), .c (.int .i64 (Int.ofNat 5))], none⟩,
      ⟨(some 15), (.pure .mov), [.t 1], none⟩,
      ⟨(some 16), (.call 10), [.t 15, .c (.int .i64 (Int.ofNat 3)), .c (.int .i64 (Int.ofNat 70))], none⟩,
      ⟨(some 2), (.pure .mov), [.t 12], none⟩,
      ⟨(some 3), (.pure .mov), [.t 14], none⟩,
      ⟨(some 4), (.pure .mov), [.t 16], none⟩] false) c8_6)
def c8_5 : C := .ret
def c8_4 : C := (.keep [0] c8_5)
def c8_3 : C := (.cond (.t 10) (.seq (.region [
      ⟨(some 0), (.pure .mov), [.c (.bool false)], none⟩] false) c8_4)
    .skip)
def c8_1 : C := (.seq (.seq (.region [
      ⟨(some 9), (.pure .mov), [.t 1], none⟩,
      ⟨(some 10), (.pure (.nilEq false .ptr)), [.t 9], none⟩] false) c8_3) c8_2)
def c8_0 : C := (.seq (.region [
      ⟨(some 8), (.call 9), [.c (.int .i64 (Int.ofNat 0))], none⟩,
      ⟨(some 1), (.pure .mov), [.t 8], none⟩] false) c8_1)
def k8 : DFn := ⟨69, (.seq (.region [
      ⟨(some 0), (.pure .mov), [.c (.bool false)], none⟩] false) c8_0), [.tmp 0]⟩
theorem c8 : (match Tryd.prog.funcs[8]? with | some fn => compileFn Tryd.prog 1 [none, none, none, none, none, some [0], none, none, none, some [0]] fn | none => none) = some k8 := by kernel_rfl
theorem e8 (tb : Nat → Option DFn) (nv : CallF) (H : Heap) (Q : Value → Heap → Prop) : wFn tb nv k8 [] H Q = (
    Ev tb nv 9 [(.int .i64 0)] H fun x0 H1 =>
    wP (.nilEq false .ptr) [x0] fun x2 =>
    asB x2 fun b3 => onB b3 (atK (Q (.bool false) H1))
    (Ev tb nv 10 [x0, (.int .i64 1), (.int .i64 70)] H1 fun x4 H5 =>
    Ev tb nv 10 [x0, (.int .i64 2), (.int .i64 5)] H5 fun x6 H7 =>
    Ev tb nv 10 [x0, (.int .i64 3), (.int .i64 70)] H7 fun x8 H9 =>
    Ev tb nv 11 [x0, (.int .i64 6)] H9 fun x10 H11 =>
    Ev tb nv 11 [x0, (.int .i64 5000)] H11 fun x12 H13 =>
    Ev tb nv 13 [x0, (.int .i64 9)] H13 fun x14 H15 =>
    wP (.bin .eql) [x4, (.int .i64 0)] fun x16 =>
    asB x16 fun b17 => onB b17 (wP (.bin .eql) [x6, (.int .i64 0)] fun x18 =>
    asB x18 fun b19 => onB b19 (wP (.bin .eql) [x8, (.int .i64 0)] fun x20 =>
    asB x20 fun b21 => onB b21 (wP (.build [(.int .i64 0), (.int .i64 0)] [(0, 1), (1, 1)]) [(.int .i64 5), (.int .i64 2)] fun x22 =>
    wA (.bslice [(.int .i64 0), (.int .i64 0)] [(0, 2)] 2 1) [x22] H15 fun x23 H24 =>
    Ev tb nv 12 [x10, x23] H24 fun x25 H26 =>
    asB x25 fun b27 => onB b27 (wP (.build [(.int .i64 0), (.int .i64 0)] [(0, 1), (1, 1)]) [(.int .i64 70), (.int .i64 1)] fun x28 =>
    wP (.build [(.int .i64 0), (.int .i64 0)] [(0, 1), (1, 1)]) [(.int .i64 70), (.int .i64 3)] fun x29 =>
    wA (.bslice [(.int .i64 0), (.int .i64 0), (.int .i64 0), (.int .i64 0)] [(0, 2), (2, 2)] 2 2) [x28, x29] H26 fun x30 H31 =>
    Ev tb nv 12 [x12, x30] H31 fun x32 H33 =>
    asB x32 fun b34 => onB b34 (wP (.build [(.int .i64 0), (.int .i64 0)] [(0, 1), (1, 1)]) [(.int .i64 5), (.int .i64 2)] fun x35 =>
    wP (.build [(.int .i64 0), (.int .i64 0)] [(0, 1), (1, 1)]) [(.int .i64 70), (.int .i64 1)] fun x36 =>
    wP (.build [(.int .i64 0), (.int .i64 0)] [(0, 1), (1, 1)]) [(.int .i64 70), (.int .i64 3)] fun x37 =>
    wA (.bslice [(.int .i64 0), (.int .i64 0), (.int .i64 0), (.int .i64 0), (.int .i64 0), (.int .i64 0)] [(0, 2), (2, 2), (4, 2)] 2 3) [x35, x36, x37] H33 fun x38 H39 =>
    Ev tb nv 12 [x14, x38] H39 fun x40 H41 =>
    asB x40 fun b42 => onB b42 (Ev tb nv 14 [x0] H41 fun x43 H44 =>
    wP (.bin .eql) [x43, (.int .i64 5000)] fun x45 =>
    asB x45 fun b46 => onB b46 (Ev tb nv 10 [x0, (.int .i64 (Int.negSucc 0)), (.int .i64 0)] H44 fun x47 H48 =>
    wP (.bin .eql) [x47, (.int .i64 1)] fun x49 =>
    asB x49 fun b50 => onB b50 (Ev tb nv 15 [x0] H48 fun x51 H52 =>
    wP (.bin .eql) [x51, (.int .i64 3)] fun x53 =>
    atK (Q x53 H52))
    (atK (Q (.bool false) H48)))
    (atK (Q (.bool false) H44)))
    (atK (Q (.bool false) H41)))
    (atK (Q (.bool false) H33)))
    (atK (Q (.bool false) H26)))
    (atK (Q (.bool false) H15)))
    (atK (Q (.bool false) H15)))
    (atK (Q (.bool false) H15)))) := by kernel_rfl

/-- tompion/wheel.New -/
def c9_2 : C := .ret
def c9_1 : C := (.keep [2] c9_2)
def c9_0 : C := (.seq (.region [
      ⟨(some 3), (.pure .mov), [.t 0], none⟩,
      ⟨(some 4), (.pure .max), [.t 3, .c (.int .i64 (Int.ofNat 0))], none⟩,
      ⟨(some 5), (.pure .min), [.t 4, .c (.int .i64 (Int.ofNat 1099511627776))], none⟩,
      ⟨(some 6), (.alloc .mkmap), [], none⟩,
      ⟨(some 7), (.pure (.build [(.int .i64 (Int.ofNat 0)), (.map none), (.int .u64 (Int.ofNat 0)), (.slice none 0 0), (.slice none 0 0), (.slice none 0 0), (.slice none 0 0), (.slice none 0 0), (.slice none 0 0), (.slice none 0 0), (.slice none 0 0), (.slice none 0 0), (.slice none 0 0), (.slice none 0 0), (.slice none 0 0), (.slice none 0 0), (.slice none 0 0), (.slice none 0 0), (.slice none 0 0), (.slice none 0 0), (.slice none 0 0), (.slice none 0 0), (.slice none 0 0), (.slice none 0 0), (.slice none 0 0), (.slice none 0 0), (.slice none 0 0), (.slice none 0 0), (.slice none 0 0), (.slice none 0 0), (.slice none 0 0), (.slice none 0 0), (.slice none 0 0), (.slice none 0 0), (.slice none 0 0), (.slice none 0 0), (.slice none 0 0), (.slice none 0 0), (.slice none 0 0), (.slice none 0 0), (.slice none 0 0), (.slice none 0 0), (.slice none 0 0), (.slice none 0 0), (.slice none 0 0), (.slice none 0 0), (.slice none 0 0), (.slice none 0 0), (.slice none 0 0), (.slice none 0 0), (.slice none 0 0), (.slice none 0 0), (.slice none 0 0), (.slice none 0 0), (.slice none 0 0), (.slice none 0 0), (.slice none 0 0), (.slice none 0 0), (.slice none 0 0), (.slice none 0 0), (.slice none 0 0), (.slice none 0 0), (.slice none 0 0), (.slice none 0 0), (.slice none 0 0), (.slice none 0 0), (.slice none 0 0), (.int .u64 (Int.ofNat 0)), (.slice none 0 0), (.slice none 0 0), (.slice none 0 0), (.slice none 0 0), (.slice none 0 0), (.slice none 0 0), (.slice none 0 0), (.slice none 0 0), (.slice none 0 0), (.slice none 0 0), (.slice none 0 0), (.slice none 0 0), (.slice none 0 0), (.slice none 0 0), (.slice none 0 0), (.slice none 0 0), (.slice none 0 0), (.slice none 0 0), (.slice none 0 0), (.slice none 0 0), (.slice none 0 0), (.slice none 0 0), (.slice none 0 0), (.slice none 0 0), (.slice none 0 0), (.slice none 0 0), (.slice none 0 0), (.slice none 0 0), (.slice none 0 0), (.slice none 0 0), (.slice none 0 0), (.slice none 0 0), (.slice none 0 0), (.slice none 0 0), (.slice none 0 0), (.slice none 0 0), (.slice none 0 0), (.slice none 0 0), (.slice none 0 0), (.slice none 0 0), (.slice none 0 0), (.slice none 0 0), (.slice none 0 0), (.slice none 0 0), (.slice none 0 0), (.slice none 0 0), (.slice none 0 0), (.slice none 0 0), (.slice none 0 0), (.slice none 0 0), (.slice none 0 0), (.slice none 0 0), (.slice none 0 0), (.slice none 0 0), (.slice none 0 0), (.slice none 0 0), (.slice none 0 0), (.slice none 0 0), (.slice none 0 0), (.slice none 0 0), (.slice none 0 0), (.slice none 0 0), (.slice none 0 0), (.slice none 0 0), (.int .u64 (Int.ofNat 0)), (.slice none 0 0), (.slice none 0 0), (.slice none 0 0), (.slice none 0 0), (.slice none 0 0), (.slice none 0 0), (.slice none 0 0), (.slice none 0 0), (.slice none 0 0), (.slice none 0 0), (.slice none 0 0), (.slice none 0 0), (.slice none 0 0), (.slice none 0 0), (.slice none 0 0), (.slice none 0 0), (.slice none 0 0), (.slice none 0 0), (.slice none 0 0), (.slice none 0 0), (.slice none 0 0), (.slice none 0 0), (.slice none 0 0), (.slice none 0 0), (.slice none 0 0), (.slice none 0 0), (.slice none 0 0), (.slice none 0 0), (.slice none 0 0), (.slice none 0 0), (.slice none 0 0), (.slice none 0 0), (.slice none 0 0), (.slice none 0 0), (.slice none 0 0), (.slice none 0 0), (.slice none 0 0), (.slice none 0 0), (.slice none 0 0), (.slice none 0 0), (.slice none 0 0), (.slice none 0 0), (.slice none 0 0), (.slice none 0 0), (.slice none 0 0), (.slice none 0 0), (.slice none 0 0), (.slice none 0 0), (.slice none 0 0), (.slice none 0 0), (.slice none 0 0), (.slice none 0 0), (.slice none 0 0), (.slice none 0 0), (.slice none 0 0), (.slice none 0 0), (.slice none 0 0), (.slice none 0 0), (.slice none 0 0), (.slice none 0 0), (.slice none 0 0), (.slice none 0 0), (.slice none 0 0), (.slice none 0 0), (.int .u64 (Int.ofNat 0)), (.slice none 0 0), (.slice none 0 0), (.slice none 0 0), (.slice none 0 0), (.slice none 0 0), (.slice none 0 0), (.slice none 0 0), (.slice none 0 0), (.slice none 0 0), (.slice none 0 0), (.slice none 0 0), (.slice none 0 0), (.slice none 0 0), (.slice none 0 0), (.slice none 0 0), (.slice none 0 0), (.slice none 0 0), (.slice none 0 0), (.slice none 0 0), (.slice none 0 0), (.slice none 0 0), (.slice none 0 0), (.slice none 0 0), (.slice none 0 0), (.slice none 0 0), (.slice none 0 0), (.slice none 0 0), (.slice none 0 0), (.slice none 0 0), (.slice none 0 0), (.slice none 0 0), (.slice none 0 0), (.slice none 0 0), (.slice none 0 0), (.slice none 0 0), (.slice none 0 0), (.slice none 0 0), (.slice none 0 0), (.slice none 0 0), (.slice none 0 0), (.slice none 0 0), (.slice none 0 0), (.slice none 0 0), (.slice none 0 0), (.slice none 0 0), (.slice none 0 0), (.slice none 0 0), (.slice none 0 0), (.slice none 0 0), (.slice none 0 0), (.slice none 0 0), (.slice none 0 0), (.slice none 0 0), (.slice none 0 0), (.slice none 0 0), (.slice none 0 0), (.slice none 0 0), (.slice none 0 0), (.slice none 0 0), (.slice none 0 0), (.slice none 0 0), (.slice none 0 0), (.slice none 0 0), (.slice none 0 0), (.int .u64 (Int.ofNat 0)), (.slice none 0 0), (.slice none 0 0), (.slice none 0 0), (.slice none 0 0), (.slice none 0 0), (.slice none 0 0), (.slice none 0 0), (.slice none 0 0), (.slice none 0 0), (.slice none 0 0), (.slice none 0 0), (.slice none 0 0), (.slice none 0 0), (.slice none 0 0), (.slice none 0 0), (.slice none 0 0), (.slice none 0 0), (.slice none 0 0), (.slice none 0 0), (.slice none 0 0), (.slice none 0 0), (.slice none 0 0), (.slice none 0 0), (.slice none 0 0), (.slice none 0 0), (.slice none 0 0), (.slice none 0 0), (.slice none 0 0), (.slice none 0 0), (.slice none 0 0), (.slice none 0 0), (.slice none 0 0), (.slice none 0 0), (.slice none 0 0), (.slice none 0 0), (.slice none 0 0), (.slice none 0 0), (.slice none 0 0), (.slice none 0 0), (.slice none 0 0), (.slice none 0 0), (.slice none 0 0), (.slice none 0 0), (.slice none 0 0), (.slice none 0 0), (.slice none 0 0), (.slice none 0 0), (.slice none 0 0), (.slice none 0 0), (.slice none 0 0), (.slice none 0 0), (.slice none 0 0), (.slice none 0 0), (.slice none 0 0), (.slice none 0 0), (.slice none 0 0), (.slice none 0 0), (.slice none 0 0), (.slice none 0 0), (.slice none 0 0), (.slice none 0 0), (.slice none 0 0), (.slice none 0 0), (.slice none 0 0), (.int .u64 (Int.ofNat 0)), (.slice none 0 0), (.slice none 0 0), (.slice none 0 0), (.slice none 0 0), (.slice none 0 0), (.slice none 0 0), (.slice none 0 0), (.slice none 0 0), (.slice none 0 0), (.slice none 0 0), (.slice none 0 0), (.slice none 0 0), (.slice none 0 0), (.slice none 0 0), (.slice none 0 0), (.slice none 0 0), (.slice none 0 0), (.slice none 0 0), (.slice none 0 0), (.slice none 0 0), (.slice none 0 0), (.slice none 0 0), (.slice none 0 0), (.slice none 0 0), (.slice none 0 0), (.slice none 0 0), (.slice none 0 0), (.slice none 0 0), (.slice none 0 0), (.slice none 0 0), (.slice none 0 0), (.slice none 0 0), (.slice none 0 0), (.slice none 0 0), (.slice none 0 0), (.slice none 0 0), (.slice none 0 0), (.slice none 0 0), (.slice none 0 0), (.slice none 0 0), (.slice none 0 0), (.slice none 0 0), (.slice none 0 0), (.slice none 0 0), (.slice none 0 0), (.slice none 0 0), (.slice none 0 0), (.slice none 0 0), (.slice none 0 0), (.slice none 0 0), (.slice none 0 0), (.slice none 0 0), (.slice none 0 0), (.slice none 0 0), (.slice none 0 0), (.slice none 0 0), (.slice none 0 0), (.slice none 0 0), (.slice none 0 0), (.slice none 0 0), (.slice none 0 0), (.slice none 0 0), (.slice none 0 0), (.slice none 0 0), (.slice none 0 0), (.slice none 0 0)] [(0, 1), (1, 1)])), [.t 5, .t 6], none⟩,
      ⟨(some 8), (.alloc .box), [.t 7], none⟩,
      ⟨(some 2), (.pure .mov), [.t 8], none⟩] false) c9_1)
def k9 : DFn := ⟨9, (.seq (.region [
      ⟨(some 2), (.pure .mov), [.c (.pointer none)], none⟩] false) c9_0), [.tmp 2]⟩
theorem c9 : (match Tryd.prog.funcs[9]? with | some fn => compileFn Tryd.prog 1 [none, none, some [2]] fn | none => none) = some k9 := by kernel_rfl
theorem e9 (tb : Nat → Option DFn) (nv : CallF) (a0 : Value) (H : Heap) (Q : Value → Heap → Prop) : wFn tb nv k9 [a0] H Q = (
    wP .max [a0, (.int .i64 0)] fun x0 =>
    wP .min [x0, (.int .i64 1099511627776)] fun x1 =>
    wA .mkmap [] H fun x2 H3 =>
    wP (.build [(.int .i64 0), (.map none), (.int .u64 0), (.slice none 0 0), (.slice none 0 0), (.slice none 0 0), (.slice none 0 0), (.slice none 0 0), (.slice none 0 0), (.slice none 0 0), (.slice none 0 0), (.slice none 0 0), (.slice none 0 0), (.slice none 0 0), (.slice none 0 0), (.slice none 0 0), (.slice none 0 0), (.slice none 0 0), (.slice none 0 0), (.slice none 0 0), (.slice none 0 0), (.slice none 0 0), (.slice none 0 0), (.slice none 0 0), (.slice none 0 0), (.slice none 0 0), (.slice none 0 0), (.slice none 0 0), (.slice none 0 0), (.slice none 0 0), (.slice none 0 0), (.slice none 0 0), (.slice none 0 0), (.slice none 0 0), (.slice none 0 0), (.slice none 0 0), (.slice none 0 0), (.slice none 0 0), (.slice none 0 0), (.slice none 0 0), (.slice none 0 0), (.slice none 0 0), (.slice none 0 0), (.slice none 0 0), (.slice none 0 0), (.slice none 0 0), (.slice none 0 0), (.slice none 0 0), (.slice none 0 0), (.slice none 0 0), (.slice none 0 0), (.slice none 0 0), (.slice none 0 0), (.slice none 0 0), (.slice none 0 0), (.slice none 0 0), (.slice none 0 0), (.slice none 0 0), (.slice none 0 0), (.slice none 0 0), (.slice none 0 0), (.slice none 0 0), (.slice none 0 0), (.slice none 0 0), (.slice none 0 0), (.slice none 0 0), (.slice none 0 0), (.int .u64 0), (.slice none 0 0), (.slice none 0 0), (.slice none 0 0), (.slice none 0 0), (.slice none 0 0), (.slice none 0 0), (.slice none 0 0), (.slice none 0 0), (.slice none 0 0), (.slice none 0 0), (.slice none 0 0), (.slice none 0 0), (.slice none 0 0), (.slice none 0 0), (.slice none 0 0), (.slice none 0 0), (.slice none 0 0), (.slice none 0 0), (.slice none 0 0), (.slice none 0 0), (.slice none 0 0), (.slice none 0 0), (.slice none 0 0), (.slice none 0 0), (.slice none 0 0), (.slice none 0 0), (.slice none 0 0), (.slice none 0 0), (.slice none 0 0), (.slice none 0 0), (.slice none 0 0), (.slice none 0 0), (.slice none 0 0), (.slice none 0 0), (.slice none 0 0), (.slice none 0 0), (.slice none 0 0), (.slice none 0 0), (.slice none 0 0), (.slice none 0 0), (.slice none 0 0), (.slice none 0 0), (.slice none 0 0), (.slice none 0 0), (.slice none 0 0), (.slice none 0 0), (.slice none 0 0), (.slice none 0 0), (.slice none 0 0), (.slice none 0 0), (.slice none 0 0), (.slice none 0 0), (.slice none 0 0), (.slice none 0 0), (.slice none 0 0), (.slice none 0 0), (.slice none 0 0), (.slice none 0 0), (.slice none 0 0), (.slice none 0 0), (.slice none 0 0), (.slice none 0 0), (.slice none 0 0), (.slice none 0 0), (.int .u64 0), (.slice none 0 0), (.slice none 0 0), (.slice none 0 0), (.slice none 0 0), (.slice none 0 0), (.slice none 0 0), (.slice none 0 0), (.slice none 0 0), (.slice none 0 0), (.slice none 0 0), (.slice none 0 0), (.slice none 0 0), (.slice none 0 0), (.slice none 0 0), (.slice none 0 0), (.slice none 0 0), (.slice none 0 0), (.slice none 0 0), (.slice none 0 0), (.slice none 0 0), (.slice none 0 0), (.slice none 0 0), (.slice none 0 0), (.slice none 0 0), (.slice none 0 0), (.slice none 0 0), (.slice none 0 0), (.slice none 0 0), (.slice none 0 0), (.slice none 0 0), (.slice none 0 0), (.slice none 0 0), (.slice none 0 0), (.slice none 0 0), (.slice none 0 0), (.slice none 0 0), (.slice none 0 0), (.slice none 0 0), (.slice none 0 0), (.slice none 0 0), (.slice none 0 0), (.slice none 0 0), (.slice none 0 0), (.slice none 0 0), (.slice none 0 0), (.slice none 0 0), (.slice none 0 0), (.slice none 0 0), (.slice none 0 0), (.slice none 0 0), (.slice none 0 0), (.slice none 0 0), (.slice none 0 0), (.slice none 0 0), (.slice none 0 0), (.slice none 0 0), (.slice none 0 0), (.slice none 0 0), (.slice none 0 0), (.slice none 0 0), (.slice none 0 0), (.slice none 0 0), (.slice none 0 0), (.slice none 0 0), (.int .u64 0), (.slice none 0 0), (.slice none 0 0), (.slice none 0 0), (.slice none 0 0), (.slice none 0 0), (.slice none 0 0), (.slice none 0 0), (.slice none 0 0), (.slice none 0 0), (.slice none 0 0), (.slice none 0 0), (.slice none 0 0), (.slice none 0 0), (.slice none 0 0), (.slice none 0 0), (.slice none 0 0), (.slice none 0 0), (.slice none 0 0), (.slice none 0 0), (.slice none 0 0), (.slice none 0 0), (.slice none 0 0), (.slice none 0 0), (.slice none 0 0), (.slice none 0 0), (.slice none 0 0), (.slice none 0 0), (.slice none 0 0), (.slice none 0 0), (.slice none 0 0), (.slice none 0 0), (.slice none 0 0), (.slice none 0 0), (.slice none 0 0), (.slice none 0 0), (.slice none 0 0), (.slice none 0 0), (.slice none 0 0), (.slice none 0 0), (.slice none 0 0), (.slice none 0 0), (.slice none 0 0), (.slice none 0 0), (.slice none 0 0), (.slice none 0 0), (.slice none 0 0), (.slice none 0 0), (.slice none 0 0), (.slice none 0 0), (.slice none 0 0), (.slice none 0 0), (.slice none 0 0), (.slice none 0 0), (.slice none 0 0), (.slice none 0 0), (.slice none 0 0), (.slice none 0 0), (.slice none 0 0), (.slice none 0 0), (.slice none 0 0), (.slice none 0 0), (.slice none 0 0), (.slice none 0 0), (.slice none 0 0), (.int .u64 0), (.slice none 0 0), (.slice none 0 0), (.slice none 0 0), (.slice none 0 0), (.slice none 0 0), (.slice none 0 0), (.slice none 0 0), (.slice none 0 0), (.slice none 0 0), (.slice none 0 0), (.slice none 0 0), (.slice none 0 0), (.slice none 0 0), (.slice none 0 0), (.slice none 0 0), (.slice none 0 0), (.slice none 0 0), (.slice none 0 0), (.slice none 0 0), (.slice none 0 0), (.slice none 0 0), (.slice none 0 0), (.slice none 0 0), (.slice none 0 0), (.slice none 0 0), (.slice none 0 0), (.slice none 0 0), (.slice none 0 0), (.slice none 0 0), (.slice none 0 0), (.slice none 0 0), (.slice none 0 0), (.slice none 0 0), (.slice none 0 0), (.slice none 0 0), (.slice none 0 0), (.slice none 0 0), (.slice none 0 0), (.slice none 0 0), (.slice none 0 0), (.slice none 0 0), (.slice none 0 0), (.slice none 0 0), (.slice none 0 0), (.slice none 0 0), (.slice none 0 0), (.slice none 0 0), (.slice none 0 0), (.slice none 0 0), (.slice none 0 0), (.slice none 0 0), (.slice none 0 0), (.slice none 0 0), (.slice none 0 0), (.slice none 0 0), (.slice none 0 0), (.slice none 0 0), (.slice none 0 0), (.slice none 0 0), (.slice none 0 0), (.slice none 0 0), (.slice none 0 0), (.slice none 0 0), (.slice none 0 0), (.int .u64 0), (.slice none 0 0), (.slice none 0 0), (.slice none 0 0), (.slice none 0 0), (.slice none 0 0), (.slice none 0 0), (.slice none 0 0), (.slice none 0 0), (.slice none 0 0), (.slice none 0 0), (.slice none 0 0), (.slice none 0 0), (.slice none 0 0), (.slice none 0 0), (.slice none 0 0), (.slice none 0 0), (.slice none 0 0), (.slice none 0 0), (.slice none 0 0), (.slice none 0 0), (.slice none 0 0), (.slice none 0 0), (.slice none 0 0), (.slice none 0 0), (.slice none 0 0), (.slice none 0 0), (.slice none 0 0), (.slice none 0 0), (.slice none 0 0), (.slice none 0 0), (.slice none 0 0), (.slice none 0 0), (.slice none 0 0), (.slice none 0 0), (.slice none 0 0), (.slice none 0 0), (.slice none 0 0), (.slice none 0 0), (.slice none 0 0), (.slice none 0 0), (.slice none 0 0), (.slice none 0 0), (.slice none 0 0), (.slice none 0 0), (.slice none 0 0), (.slice none 0 0), (.slice none 0 0), (.slice none 0 0), (.slice none 0 0), (.slice none 0 0), (.slice none 0 0), (.slice none 0 0), (.slice none 0 0), (.slice none 0 0), (.slice none 0 0), (.slice none 0 0), (.slice none 0 0), (.slice none 0 0), (.slice none 0 0), (.slice none 0 0), (.slice none 0 0), (.slice none 0 0), (.slice none 0 0), (.slice none 0 0), (.slice none 0 0), (.slice none 0 0)] [(0, 1), (1, 1)]) [x1, x2] fun x4 =>
    wA .box [x4] H3 fun x5 H6 =>
    atK (Q x5 H6)) := by kernel_rfl

end Go.Proofs.YtedeopeegicnbaaDoor.D
