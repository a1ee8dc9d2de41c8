/- The compiled functions of the seat, as the machine "D" runs them, and what each comes to (written by a program). No statement of the seat is proved in this text. -/
import Derived.Test.YtdpbbppjjjhnoaaGreatDoorDz
import Derived.Test.YtdpbbppjjjhnoaaGreatDoorProg
set_option maxRecDepth 100000
set_option linter.unusedVariables false
namespace Go.Proofs.YtdpbbppjjjhnoaaGreatDoor.D
open Go
/-- (*tompion/oplog.Log).Reply -/
def c85_3 : C := .ret
def c85_2 : C := (.keep [4, 5] c85_3)
def c85_1 : C := (.seq (.region [
      ⟨(some 14), (.pure (.fadd 10)), [.t 6], none⟩,
      ⟨(some 15), (.read (.load 3 true) []), [.t 14], none⟩,
      ⟨(some 16), (.pure .mov), [.t 7], none⟩,
      ⟨none, (.eff (.store 3)), [.t 4, .t 15], none⟩,
      ⟨(some 5), (.pure .mov), [.t 16], none⟩] false) c85_2)
def c85_0 : C := (.seq (.region [
      ⟨(some 9), (.pure .mov), [.t 0], none⟩,
      ⟨(some 10), (.pure .mov), [.t 1], none⟩,
      ⟨(some 11), (.call 100), [.t 9, .t 10], none⟩,
      ⟨(some 8), (.pure .mov), [.t 11], none⟩,
      ⟨(some 12), (.pure (.extract 0)), [.t 8], none⟩,
      ⟨(some 13), (.pure (.extract 1)), [.t 8], none⟩,
      ⟨(some 6), (.alloc (.alloc [(.int .i64 (Int.ofNat 0)), (.int .i64 (Int.ofNat 0)), (.int .i64 (Int.ofNat 0)), (.int .i64 (Int.ofNat 0)), (.int .i64 (Int.ofNat 0)), (.int .i64 (Int.ofNat 0)), (.int .i64 (Int.ofNat 0)), (.int .i64 (Int.ofNat 0)), (.int .i64 (Int.ofNat 0)), (.string ⟨⟨[]⟩⟩), (.int .i64 (Int.ofNat 0)), (.int .i64 (Int.ofNat 0)), (.int .i64 (Int.ofNat 0)), (.int .i64 (Int.ofNat 0)), (.int .i64 (Int.ofNat 0)), (.int .i64 (Int.ofNat 0)), (.int .i64 (Int.ofNat 0)), (.int .i64 (Int.ofNat 0)), (.int .i64 (Int.ofNat 0))])), [], none⟩,
      ⟨none, (.eff (.store 19)), [.t 6, .t 12], none⟩,
      ⟨(some 7), (.pure .mov), [.t 13], none⟩] false) c85_1)
def k85 : DFn := ⟨17, (.seq (.region [
      ⟨(some 4), (.alloc (.alloc [(.int .i64 (Int.ofNat 0)), (.int .i64 (Int.ofNat 0)), (.int .i64 (Int.ofNat 0))])), [], none⟩,
      ⟨(some 5), (.pure .mov), [.c (.int .i64 (Int.ofNat 0))], none⟩] false) c85_0), [.cell 4 3 true, .tmp 5]⟩
theorem c85 : (match Tryz.prog.funcs[85]? with | some fn => compileFn Tryz.prog 4 [none, none, none, some [4, 5]] fn | none => none) = some k85 := by kernel_rfl


/-- (*tompion/wheel.Wheel).place -/
def c86_11 : C := .ret
def c86_10 : C := (.keep [4, 5] c86_11)
def c86_6 : C := (.seq (.region [
      ⟨(some 24), (.pure .mov), [.t 4], none⟩,
      ⟨(some 25), (.pure .mov), [.t 1], none⟩,
      ⟨(some 26), (.pure .mov), [.t 4], none⟩,
      ⟨(some 27), (.pure (.bin .mul)), [.c (.int .i64 (Int.ofNat 6)), .t 26], none⟩,
      ⟨(some 28), (.pure (.bin .shr)), [.t 25, .t 27], none⟩,
      ⟨(some 29), (.pure (.bin .and)), [.t 28, .c (.int .i64 (Int.ofNat 63))], none⟩,
      ⟨(some 4), (.pure .mov), [.t 24], none⟩,
      ⟨(some 5), (.pure .mov), [.t 29], none⟩] false) c86_10)
def c86_9 : C := .ret
def c86_8 : C := (.keep [4, 5] c86_9)
def c86_7 : C := (.cond (.t 23) (.seq (.region [
      ⟨(some 4), (.pure .mov), [.c (.int .i64 (Int.ofNat 6))], none⟩,
      ⟨(some 5), (.pure .mov), [.c (.int .i64 (Int.ofNat 0))], none⟩] false) c86_8)
    .skip)
def c86_5 : C := (.seq (.seq (.region [
      ⟨(some 22), (.pure .mov), [.t 4], none⟩,
      ⟨(some 23), (.pure (.bin .geq)), [.t 22, .c (.int .i64 (Int.ofNat 6))], none⟩] false) c86_7) c86_6)
def c86_1 : C := (.seq (.region [
      ⟨(some 12), (.pure .mov), [.t 1], none⟩,
      ⟨(some 13), (.pure .mov), [.t 0], none⟩,
      ⟨(some 14), (.pure .nilchk), [.t 13], none⟩,
      ⟨(some 15), (.pure (.fadd 0)), [.t 14], none⟩,
      ⟨(some 16), (.read (.load 1 false) []), [.t 15], none⟩,
      ⟨(some 17), (.pure (.bin .xor)), [.t 12, .t 16], none⟩,
      ⟨(some 18), (.pure (.conv .u64)), [.t 17], none⟩,
      ⟨(some 19), (.call 101), [.t 18], none⟩,
      ⟨(some 20), (.pure (.bin .sub)), [.t 19, .c (.int .i64 (Int.ofNat 1))], none⟩,
      ⟨(some 21), (.pure (.bin .quo)), [.t 20, .c (.int .i64 (Int.ofNat 6))], none⟩,
      ⟨(some 4), (.pure .mov), [.t 21], none⟩] false) c86_5)
def c86_4 : C := .ret
def c86_3 : C := (.keep [4, 5] c86_4)
def c86_2 : C := (.cond (.t 11) (.seq (.region [
      ⟨(some 4), (.pure .mov), [.c (.int .i64 (Int.negSucc 0))], none⟩,
      ⟨(some 5), (.pure .mov), [.c (.int .i64 (Int.ofNat 0))], none⟩] false) c86_3)
    .skip)
def c86_0 : C := (.seq (.seq (.region [
      ⟨(some 6), (.pure .mov), [.t 1], none⟩,
      ⟨(some 7), (.pure .mov), [.t 0], none⟩,
      ⟨(some 8), (.pure .nilchk), [.t 7], none⟩,
      ⟨(some 9), (.pure (.fadd 0)), [.t 8], none⟩,
      ⟨(some 10), (.read (.load 1 false) []), [.t 9], none⟩,
      ⟨(some 11), (.pure (.bin .leq)), [.t 6, .t 10], none⟩] false) c86_2) c86_1)
def k86 : DFn := ⟨30, (.seq (.region [
      ⟨(some 4), (.pure .mov), [.c (.int .i64 (Int.ofNat 0))], none⟩,
      ⟨(some 5), (.pure .mov), [.c (.int .i64 (Int.ofNat 0))], none⟩] false) c86_0), [.tmp 4, .tmp 5]⟩
theorem c86 : (match Tryz.prog.funcs[86]? with | some fn => compileFn Tryz.prog 4 [none, none, none, none, some [4, 5], none, none, none, none, some [4, 5], none, some [4, 5]] fn | none => none) = some k86 := by kernel_rfl


/-- (*tompion/wheel.level).take -/
def c87_23 : C := .ret
def c87_22 : C := (.keep [6] c87_23)
def c87_21 : C := (.seq (.region [
      ⟨(some 58), (.pure .mov), [.t 6], none⟩,
      ⟨(some 6), (.pure .mov), [.t 58], none⟩] false) c87_22)
def c87_20 : C := (.seq (.region [
      ⟨(some 50), (.pure .mov), [.t 0], none⟩,
      ⟨(some 51), (.pure .nilchk), [.t 50], none⟩,
      ⟨(some 52), (.pure (.fadd 0)), [.t 51], none⟩,
      ⟨(some 53), (.read (.load 1 false) []), [.t 52], none⟩,
      ⟨(some 54), (.pure .mov), [.t 7], none⟩,
      ⟨(some 55), (.pure (.bin .andNot)), [.t 53, .t 54], none⟩,
      ⟨(some 56), (.pure .nilchk), [.t 50], none⟩,
      ⟨(some 57), (.pure (.fadd 0)), [.t 56], none⟩,
      ⟨none, (.eff (.store 1)), [.t 57, .t 55], none⟩] false) c87_21)
def c87_9 : C := (.keep [0, 6, 7] c87_20)
def c87_19 : C := .skip
def c87_12 : C := (.keep [0, 6, 7, 8] c87_19)
def c87_16 : C := (.region [
      ⟨(some 31), (.pure .mov), [.t 8], none⟩,
      ⟨(some 32), (.pure .mov), [.t 8], none⟩,
      ⟨(some 33), (.pure (.bin .sub)), [.t 32, .c (.int .u64 (Int.ofNat 1))], none⟩,
      ⟨(some 34), (.pure (.bin .and)), [.t 31, .t 33], none⟩,
      ⟨(some 8), (.pure .mov), [.t 34], none⟩] false)
def c87_18 : C := (.region [
      ⟨(some 45), (.pure .mov), [.t 0], none⟩,
      ⟨(some 46), (.pure .mov), [.t 9], none⟩,
      ⟨(some 47), (.pure .nilchk), [.t 45], none⟩,
      ⟨(some 48), (.pure (.fadd 1)), [.t 47], none⟩,
      ⟨(some 49), (.pure (.iaddA 64 1)), [.t 48, .t 46], none⟩,
      ⟨none, (.eff (.store 1)), [.t 49, .c (.slice none 0 0)], none⟩] false)
def c87_17 : C := (.seq (.region [
      ⟨(some 37), (.pure .mov), [.t 6], none⟩,
      ⟨(some 38), (.pure .mov), [.t 0], none⟩,
      ⟨(some 39), (.pure .mov), [.t 9], none⟩,
      ⟨(some 40), (.pure .nilchk), [.t 38], none⟩,
      ⟨(some 41), (.pure (.fadd 1)), [.t 40], none⟩,
      ⟨(some 42), (.pure (.iaddA 64 1)), [.t 41, .t 39], none⟩,
      ⟨(some 43), (.read (.load 1 false) []), [.t 42], none⟩,
      ⟨(some 44), (.eff (.app 1 8)), [.t 37, .t 43], none⟩,
      ⟨(some 6), (.pure .mov), [.t 44], none⟩] false) c87_18)
def c87_13 : C := (.seq (.block 1 (.seq (.region [
      ⟨(some 35), (.pure .mov), [.t 8], none⟩,
      ⟨(some 36), (.call 102), [.t 35], none⟩,
      ⟨(some 9), (.pure .mov), [.t 36], none⟩] false) c87_17)) c87_16)
def c87_15 : C := (.exit 0)
def c87_14 : C := (.cond (.t 30) .skip
    (.keep [0, 6, 7] c87_15))
def c87_11 : C := (.seq (.seq (.seq (.region [
      ⟨(some 29), (.pure .mov), [.t 8], none⟩,
      ⟨(some 30), (.pure (.bin .neq)), [.t 29, .c (.int .u64 (Int.ofNat 0))], none⟩] false) c87_14) c87_13) c87_12)
def c87_10 : C := (.block 0 (.loop (some [0, 6, 7, 8]) c87_11))
def c87_8 : C := (.seq (.seq (.region [
      ⟨(some 23), (.pure .mov), [.t 0], none⟩,
      ⟨(some 24), (.pure .nilchk), [.t 23], none⟩,
      ⟨(some 25), (.pure (.fadd 0)), [.t 24], none⟩,
      ⟨(some 26), (.read (.load 1 false) []), [.t 25], none⟩,
      ⟨(some 27), (.pure .mov), [.t 7], none⟩,
      ⟨(some 28), (.pure (.bin .and)), [.t 26, .t 27], none⟩,
      ⟨(some 8), (.pure .mov), [.t 28], none⟩] false) c87_10) c87_9)
def c87_6 : C := (.keep [0, 6, 7] c87_8)
def c87_7 : C := (.cond (.t 16) (.region [
      ⟨(some 17), (.pure .mov), [.t 7], none⟩,
      ⟨(some 18), (.pure .mov), [.t 2], none⟩,
      ⟨(some 19), (.pure (.bin .add)), [.t 18, .c (.int .i64 (Int.ofNat 1))], none⟩,
      ⟨(some 20), (.pure (.bin .shl)), [.c (.int .u64 (Int.ofNat 1)), .t 19], none⟩,
      ⟨(some 21), (.pure (.bin .sub)), [.t 20, .c (.int .u64 (Int.ofNat 1))], none⟩,
      ⟨(some 22), (.pure (.bin .and)), [.t 17, .t 21], none⟩,
      ⟨(some 7), (.pure .mov), [.t 22], none⟩] false)
    .skip)
def c87_5 : C := (.seq (.seq (.region [
      ⟨(some 15), (.pure .mov), [.t 2], none⟩,
      ⟨(some 16), (.pure (.bin .lss)), [.t 15, .c (.int .i64 (Int.ofNat 63))], none⟩] false) c87_7) c87_6)
def c87_1 : C := (.seq (.region [
      ⟨(some 13), (.pure .mov), [.t 1], none⟩,
      ⟨(some 14), (.pure (.bin .shl)), [.c (.int .u64 (Int.ofNat 18446744073709551615)), .t 13], none⟩,
      ⟨(some 7), (.pure .mov), [.t 14], none⟩] false) c87_5)
def c87_4 : C := .ret
def c87_3 : C := (.keep [6] c87_4)
def c87_2 : C := (.cond (.t 12) (.seq (.region [
      ⟨(some 6), (.pure .mov), [.c (.slice none 0 0)], none⟩] false) c87_3)
    .skip)
def c87_0 : C := (.seq (.seq (.region [
      ⟨(some 10), (.pure .mov), [.t 1], none⟩,
      ⟨(some 11), (.pure .mov), [.t 2], none⟩,
      ⟨(some 12), (.pure (.bin .gtr)), [.t 10, .t 11], none⟩] false) c87_2) c87_1)
def k87 : DFn := ⟨59, (.seq (.region [
      ⟨(some 6), (.pure .mov), [.c (.slice none 0 0)], none⟩] false) c87_0), [.tmp 6]⟩
theorem c87 : (match Tryz.prog.funcs[87]? with | some fn => compileFn Tryz.prog 4 [none, none, none, none, some [6], none, some [0, 6, 7], none, some [0, 6, 7], none, some [0, 6, 7, 8], none, none, some [0, 6, 7], none, none, none, none, none, some [6]] fn | none => none) = some k87 := by kernel_rfl


/-- (*tompion/wheel.Wheel).put -/
def c88_5 : C := (.region [
      ⟨(some 33), (.pure .mov), [.t 6], none⟩,
      ⟨(some 34), (.pure .mov), [.t 5], none⟩,
      ⟨(some 35), (.pure .mov), [.t 6], none⟩,
      ⟨(some 36), (.pure .mov), [.t 5], none⟩,
      ⟨(some 37), (.pure .nilchk), [.t 35], none⟩,
      ⟨(some 38), (.pure (.fadd 1)), [.t 37], none⟩,
      ⟨(some 39), (.pure (.iaddA 64 1)), [.t 38, .t 36], none⟩,
      ⟨(some 40), (.read (.load 1 false) []), [.t 39], none⟩,
      ⟨(some 41), (.pure .mov), [.t 1], none⟩,
      ⟨(some 42), (.alloc (.bslice [(.int .i64 (Int.ofNat 0))] [(0, 1)] 1 1)), [.t 41], none⟩,
      ⟨(some 43), (.eff (.app 1 8)), [.t 40, .t 42], none⟩,
      ⟨(some 44), (.pure .nilchk), [.t 33], none⟩,
      ⟨(some 45), (.pure (.fadd 1)), [.t 44], none⟩,
      ⟨(some 46), (.pure (.iaddA 64 1)), [.t 45, .t 34], none⟩,
      ⟨none, (.eff (.store 1)), [.t 46, .t 43], none⟩] false)
def c88_4 : C := (.seq (.region [
      ⟨(some 24), (.pure .mov), [.t 6], none⟩,
      ⟨(some 25), (.pure .nilchk), [.t 24], none⟩,
      ⟨(some 26), (.pure (.fadd 0)), [.t 25], none⟩,
      ⟨(some 27), (.read (.load 1 false) []), [.t 26], none⟩,
      ⟨(some 28), (.pure .mov), [.t 5], none⟩,
      ⟨(some 29), (.pure (.bin .shl)), [.c (.int .u64 (Int.ofNat 1)), .t 28], none⟩,
      ⟨(some 30), (.pure (.bin .or)), [.t 27, .t 29], none⟩,
      ⟨(some 31), (.pure .nilchk), [.t 24], none⟩,
      ⟨(some 32), (.pure (.fadd 0)), [.t 31], none⟩,
      ⟨none, (.eff (.store 1)), [.t 32, .t 30], none⟩] false) c88_5)
def c88_3 : C := (.cond (.t 59) (.region [
      ⟨(some 61), (.pure .mov), [.t 0], none⟩,
      ⟨(some 62), (.pure .mov), [.t 0], none⟩,
      ⟨(some 63), (.pure .nilchk), [.t 62], none⟩,
      ⟨(some 64), (.pure (.fadd 392)), [.t 63], none⟩,
      ⟨(some 65), (.read (.load 1 false) []), [.t 64], none⟩,
      ⟨(some 66), (.pure .mov), [.t 1], none⟩,
      ⟨(some 67), (.alloc (.bslice [(.int .i64 (Int.ofNat 0))] [(0, 1)] 1 1)), [.t 66], none⟩,
      ⟨(some 68), (.eff (.app 1 8)), [.t 65, .t 67], none⟩,
      ⟨(some 69), (.pure .nilchk), [.t 61], none⟩,
      ⟨(some 70), (.pure (.fadd 392)), [.t 69], none⟩,
      ⟨none, (.eff (.store 1)), [.t 70, .t 68], none⟩] false)
    (.seq (.region [
      ⟨(some 19), (.pure .mov), [.t 0], none⟩,
      ⟨(some 20), (.pure .mov), [.t 4], none⟩,
      ⟨(some 21), (.pure .nilchk), [.t 19], none⟩,
      ⟨(some 22), (.pure (.fadd 2)), [.t 21], none⟩,
      ⟨(some 23), (.pure (.iaddA 6 65)), [.t 22, .t 20], none⟩,
      ⟨(some 6), (.pure .mov), [.t 23], none⟩] false) c88_4))
def c88_2 : C := (.cond (.t 47) (.region [
      ⟨(some 49), (.pure .mov), [.t 0], none⟩,
      ⟨(some 50), (.pure .mov), [.t 0], none⟩,
      ⟨(some 51), (.pure .nilchk), [.t 50], none⟩,
      ⟨(some 52), (.pure (.fadd 393)), [.t 51], none⟩,
      ⟨(some 53), (.read (.load 1 false) []), [.t 52], none⟩,
      ⟨(some 54), (.pure .mov), [.t 1], none⟩,
      ⟨(some 55), (.alloc (.bslice [(.int .i64 (Int.ofNat 0))] [(0, 1)] 1 1)), [.t 54], none⟩,
      ⟨(some 56), (.eff (.app 1 8)), [.t 53, .t 55], none⟩,
      ⟨(some 57), (.pure .nilchk), [.t 49], none⟩,
      ⟨(some 58), (.pure (.fadd 393)), [.t 57], none⟩,
      ⟨none, (.eff (.store 1)), [.t 58, .t 56], none⟩] false)
    (.seq (.region [
      ⟨(some 60), (.pure (.bin .eql)), [.t 18, .c (.int .i64 (Int.ofNat 6))], none⟩,
      ⟨(some 59), (.pure .mov), [.t 60], none⟩] false) c88_3))
def c88_1 : C := (.block 0 (.seq (.region [
      ⟨(some 48), (.pure (.bin .eql)), [.t 18, .c (.int .i64 (Int.negSucc 0))], none⟩,
      ⟨(some 47), (.pure .mov), [.t 48], none⟩] false) c88_2))
def c88_0 : C := (.seq (.region [
      ⟨(some 18), (.pure .mov), [.t 4], none⟩] false) c88_1)
def k88 : DFn := ⟨71, (.seq (.region [
      ⟨(some 8), (.pure .mov), [.t 0], none⟩,
      ⟨(some 9), (.pure .mov), [.t 0], none⟩,
      ⟨(some 10), (.pure .nilchk), [.t 9], none⟩,
      ⟨(some 11), (.pure (.fadd 1)), [.t 10], none⟩,
      ⟨(some 12), (.read (.load 1 false) []), [.t 11], none⟩,
      ⟨(some 13), (.pure .mov), [.t 1], none⟩,
      ⟨(some 14), (.read (.lookup (.one .i) (.int .i64 (Int.ofNat 0)) false) []), [.t 12, .t 13], none⟩,
      ⟨(some 15), (.call 86), [.t 8, .t 14], none⟩,
      ⟨(some 7), (.pure .mov), [.t 15], none⟩,
      ⟨(some 16), (.pure (.extract 0)), [.t 7], none⟩,
      ⟨(some 17), (.pure (.extract 1)), [.t 7], none⟩,
      ⟨(some 4), (.pure .mov), [.t 16], none⟩,
      ⟨(some 5), (.pure .mov), [.t 17], none⟩] false) c88_0), []⟩
theorem c88 : (match Tryz.prog.funcs[88]? with | some fn => compileFn Tryz.prog 4 [none, none, none, none, none, none] fn | none => none) = some k88 := by kernel_rfl


/-- (*tompion/wheel.Wheel).pairs -/
def c89_14 : C := .ret
def c89_13 : C := (.keep [4] c89_14)
def c89_12 : C := (.seq (.region [
      ⟨(some 27), (.pure .mov), [.t 4], none⟩,
      ⟨(some 4), (.pure .mov), [.t 27], none⟩] false) c89_13)
def c89_11 : C := (.seq (.region [
      ⟨(some 25), (.pure .mov), [.t 4], none⟩,
      ⟨(some 26), (.call 103), [.t 25, .c (.func (.func 104) ⟨[]⟩ ⟨[]⟩)], none⟩] false) c89_12)
def c89_1 : C := (.keep [4] c89_11)
def c89_10 : C := .skip
def c89_4 : C := (.keep [0, 4, 7, 8, 9] c89_10)
def c89_8 : C := (.region [
      ⟨(some 24), (.pure (.bin .add)), [.t 9, .c (.int .i64 (Int.ofNat 1))], none⟩,
      ⟨(some 9), (.pure .mov), [.t 24], none⟩] false)
def c89_9 : C := (.region [
      ⟨(some 13), (.pure .mov), [.t 4], none⟩,
      ⟨(some 14), (.pure .mov), [.t 0], none⟩,
      ⟨(some 15), (.pure .nilchk), [.t 14], none⟩,
      ⟨(some 16), (.pure (.fadd 1)), [.t 15], none⟩,
      ⟨(some 17), (.read (.load 1 false) []), [.t 16], none⟩,
      ⟨(some 18), (.pure .mov), [.t 6], none⟩,
      ⟨(some 19), (.read (.lookup (.one .i) (.int .i64 (Int.ofNat 0)) false) []), [.t 17, .t 18], none⟩,
      ⟨(some 20), (.pure .mov), [.t 6], none⟩,
      ⟨(some 21), (.pure (.build [(.int .i64 (Int.ofNat 0)), (.int .i64 (Int.ofNat 0))] [(0, 1), (1, 1)])), [.t 19, .t 20], none⟩,
      ⟨(some 22), (.alloc (.bslice [(.int .i64 (Int.ofNat 0)), (.int .i64 (Int.ofNat 0))] [(0, 2)] 2 1)), [.t 21], none⟩,
      ⟨(some 23), (.eff (.app 2 16)), [.t 13, .t 22], none⟩,
      ⟨(some 4), (.pure .mov), [.t 23], none⟩] false)
def c89_6 : C := (.seq (.block 1 (.seq (.region [
      ⟨(some 11), (.pure (.iaddS 1)), [.t 7, .t 9], none⟩,
      ⟨(some 12), (.read (.load 1 false) []), [.t 11], none⟩,
      ⟨(some 6), (.pure .mov), [.t 12], none⟩] false) c89_9)) c89_8)
def c89_7 : C := (.exit 0)
def c89_5 : C := (.seq (.cond (.t 10) .skip
    (.keep [4] c89_7)) c89_6)
def c89_3 : C := (.seq (.seq (.region [
      ⟨(some 10), (.pure (.bin .lss)), [.t 9, .t 8], none⟩] false) c89_5) c89_4)
def c89_2 : C := (.block 0 (.loop (some [0, 4, 7, 8, 9]) c89_3))
def c89_0 : C := (.seq (.seq (.region [
      ⟨(some 7), (.pure .mov), [.t 1], none⟩,
      ⟨(some 8), (.pure .lenS), [.t 7], none⟩,
      ⟨(some 9), (.pure .mov), [.c (.int .i64 (Int.ofNat 0))], none⟩] false) c89_2) c89_1)
def k89 : DFn := ⟨28, (.seq (.region [
      ⟨(some 4), (.pure .mov), [.c (.slice none 0 0)], none⟩] false) c89_0), [.tmp 4]⟩
theorem c89 : (match Tryz.prog.funcs[89]? with | some fn => compileFn Tryz.prog 4 [none, some [4], none, some [0, 4, 7, 8, 9], none, none, some [4], none, none, none, none, some [4]] fn | none => none) = some k89 := by kernel_rfl


/-- (*tompion/state.State).Last -/
def c90_20 : C := .ret
def c90_19 : C := (.keep [4, 5, 6] c90_20)
def c90_18 : C := (.seq (.region [
      ⟨(some 30), (.read (.load 3 true) []), [.t 5], none⟩,
      ⟨(some 4), (.pure .mov), [.c (.int .i64 (Int.ofNat 0))], none⟩,
      ⟨none, (.eff (.store 3)), [.t 5, .t 30], none⟩,
      ⟨(some 6), (.pure .mov), [.c (.bool false)], none⟩] false) c90_19)
def c90_5 : C := (.keep [5] c90_18)
def c90_17 : C := .skip
def c90_8 : C := (.keep [1, 5, 15, 16, 17] c90_17)
def c90_12 : C := (.region [
      ⟨(some 29), (.pure (.bin .add)), [.t 17, .c (.int .i64 (Int.ofNat 1))], none⟩,
      ⟨(some 17), (.pure .mov), [.t 29], none⟩] false)
def c90_16 : C := .ret
def c90_15 : C := (.keep [4, 5, 6] c90_16)
def c90_14 : C := (.cond (.t 24) (.seq (.region [
      ⟨(some 25), (.pure (.fadd 1)), [.t 8], none⟩,
      ⟨(some 26), (.read (.load 1 false) []), [.t 25], none⟩,
      ⟨(some 27), (.pure (.fadd 2)), [.t 8], none⟩,
      ⟨(some 28), (.read (.load 3 true) []), [.t 27], none⟩,
      ⟨(some 4), (.pure .mov), [.t 26], none⟩,
      ⟨none, (.eff (.store 3)), [.t 5, .t 28], none⟩,
      ⟨(some 6), (.pure .mov), [.c (.bool true)], none⟩] false) c90_15)
    .skip)
def c90_13 : C := (.seq (.region [
      ⟨(some 21), (.pure (.fadd 0)), [.t 8], none⟩,
      ⟨(some 22), (.read (.load 1 false) []), [.t 21], none⟩,
      ⟨(some 23), (.pure .mov), [.t 1], none⟩,
      ⟨(some 24), (.pure (.bin .eql)), [.t 22, .t 23], none⟩] false) c90_14)
def c90_10 : C := (.seq (.block 1 (.seq (.region [
      ⟨(some 19), (.pure (.iaddS 5)), [.t 15, .t 17], none⟩,
      ⟨(some 20), (.read (.load 5 true) []), [.t 19], none⟩,
      ⟨(some 8), (.alloc (.alloc [(.int .i64 (Int.ofNat 0)), (.int .i64 (Int.ofNat 0)), (.int .i64 (Int.ofNat 0)), (.int .i64 (Int.ofNat 0)), (.int .i64 (Int.ofNat 0))])), [], none⟩,
      ⟨none, (.eff (.store 5)), [.t 8, .t 20], none⟩] false) c90_13)) c90_12)
def c90_11 : C := (.exit 0)
def c90_9 : C := (.seq (.cond (.t 18) .skip
    (.keep [5] c90_11)) c90_10)
def c90_7 : C := (.seq (.seq (.region [
      ⟨(some 18), (.pure (.bin .lss)), [.t 17, .t 16], none⟩] false) c90_9) c90_8)
def c90_6 : C := (.block 0 (.loop (some [1, 5, 15, 16, 17]) c90_7))
def c90_1 : C := (.seq (.seq (.region [
      ⟨(some 12), (.pure .mov), [.t 0], none⟩,
      ⟨(some 13), (.pure .nilchk), [.t 12], none⟩,
      ⟨(some 14), (.pure (.fadd 3)), [.t 13], none⟩,
      ⟨(some 15), (.read (.load 1 false) []), [.t 14], none⟩,
      ⟨(some 16), (.pure .lenS), [.t 15], none⟩,
      ⟨(some 17), (.pure .mov), [.c (.int .i64 (Int.ofNat 0))], none⟩] false) c90_6) c90_5)
def c90_4 : C := .ret
def c90_3 : C := (.keep [4, 5, 6] c90_4)
def c90_2 : C := (.cond (.t 10) (.seq (.region [
      ⟨(some 11), (.read (.load 3 true) []), [.t 5], none⟩,
      ⟨(some 4), (.pure .mov), [.c (.int .i64 (Int.ofNat 0))], none⟩,
      ⟨none, (.eff (.store 3)), [.t 5, .t 11], none⟩,
      ⟨(some 6), (.pure .mov), [.c (.bool false)], none⟩] false) c90_3)
    .skip)
def c90_0 : C := (.seq (.seq (.region [
      ⟨(some 9), (.pure .mov), [.t 0], none⟩,
      ⟨(some 10), (.pure (.nilEq false .ptr)), [.t 9], none⟩] false) c90_2) c90_1)
def k90 : DFn := ⟨31, (.seq (.region [
      ⟨(some 4), (.pure .mov), [.c (.int .i64 (Int.ofNat 0))], none⟩,
      ⟨(some 5), (.alloc (.alloc [(.int .i64 (Int.ofNat 0)), (.int .i64 (Int.ofNat 0)), (.int .i64 (Int.ofNat 0))])), [], none⟩,
      ⟨(some 6), (.pure .mov), [.c (.bool false)], none⟩] false) c90_0), [.tmp 4, .cell 5 3 true, .tmp 6]⟩
theorem c90 : (match Tryz.prog.funcs[90]? with | some fn => compileFn Tryz.prog 4 [none, none, none, none, some [4, 5, 6], some [5], none, some [1, 5, 15, 16, 17], none, none, some [5], none, none, none, none, some [4, 5, 6], none, some [4, 5, 6]] fn | none => none) = some k90 := by kernel_rfl


/-- (*tompion/state.State).request -/
def c91_16 : C := .ret
def c91_15 : C := (.keep [6] c91_16)
def c91_14 : C := (.seq (.region [
      ⟨(some 110), (.pure .mov), [.t 0], none⟩,
      ⟨(some 111), (.pure .nilchk), [.t 110], none⟩,
      ⟨(some 112), (.pure (.fadd 3)), [.t 111], none⟩,
      ⟨(some 113), (.read (.load 1 false) []), [.t 112], none⟩,
      ⟨(some 114), (.pure .mov), [.t 7], none⟩,
      ⟨(some 115), (.pure (.iaddS 5)), [.t 113, .t 114], none⟩,
      ⟨(some 116), (.pure (.fadd 2)), [.t 115], none⟩,
      ⟨(some 117), (.read (.load 3 true) []), [.t 116], none⟩,
      ⟨none, (.eff (.store 3)), [.t 6, .t 117], none⟩] false) c91_15)
def c91_2 : C := (.keep [0, 6, 7] c91_14)
def c91_5 : C := .ret
def c91_4 : C := (.keep [6] c91_5)
def c91_9 : C := .ret
def c91_8 : C := (.keep [6] c91_9)
def c91_7 : C := (.seq (.region [
      ⟨(some 50), (.pure .mov), [.t 0], none⟩,
      ⟨(some 51), (.pure .nilchk), [.t 50], none⟩,
      ⟨(some 52), (.pure (.fadd 3)), [.t 51], none⟩,
      ⟨(some 53), (.read (.load 1 false) []), [.t 52], none⟩,
      ⟨(some 54), (.pure .mov), [.t 0], none⟩,
      ⟨(some 55), (.pure .nilchk), [.t 54], none⟩,
      ⟨(some 56), (.pure (.fadd 3)), [.t 55], none⟩,
      ⟨(some 57), (.read (.load 1 false) []), [.t 56], none⟩,
      ⟨(some 58), (.pure .lenS), [.t 57], none⟩,
      ⟨(some 59), (.pure (.bin .sub)), [.t 58, .c (.int .i64 (Int.ofNat 1))], none⟩,
      ⟨(some 60), (.pure (.iaddS 5)), [.t 53, .t 59], none⟩,
      ⟨(some 61), (.pure (.fadd 2)), [.t 60], none⟩,
      ⟨(some 62), (.read (.load 3 true) []), [.t 61], none⟩,
      ⟨none, (.eff (.store 3)), [.t 6, .t 62], none⟩] false) c91_8)
def c91_12 : C := .ret
def c91_11 : C := (.keep [6] c91_12)
def c91_13 : C := (.cond (.t 78) (.region [
      ⟨(some 92), (.pure .mov), [.t 0], none⟩,
      ⟨(some 93), (.pure .nilchk), [.t 92], none⟩,
      ⟨(some 94), (.pure (.fadd 3)), [.t 93], none⟩,
      ⟨(some 95), (.read (.load 1 false) [16]), [.t 94], none⟩,
      ⟨(some 96), (.pure .mov), [.t 7], none⟩,
      ⟨(some 97), (.read (.load 1 false) [16]), [.t 4], none⟩,
      ⟨(some 98), (.pure .nilchk), [.t 97], none⟩,
      ⟨(some 99), (.pure (.fadd 1)), [.t 98], none⟩,
      ⟨(some 100), (.read (.load 1 false) [16]), [.t 99], none⟩,
      ⟨(some 101), (.read (.load 1 false) [16]), [.t 4], none⟩,
      ⟨(some 102), (.pure .nilchk), [.t 101], none⟩,
      ⟨(some 103), (.pure (.fadd 2)), [.t 102], none⟩,
      ⟨(some 104), (.read (.load 1 false) [16]), [.t 103], none⟩,
      ⟨(some 105), (.pure .mov), [.t 2], none⟩,
      ⟨(some 106), (.read (.load 1 false) []), [.t 4], none⟩,
      ⟨(some 107), .callv, [.t 105, .t 106], none⟩,
      ⟨(some 108), (.pure (.build [(.int .i64 (Int.ofNat 0)), (.int .i64 (Int.ofNat 0)), (.int .i64 (Int.ofNat 0)), (.int .i64 (Int.ofNat 0)), (.int .i64 (Int.ofNat 0))] [(0, 1), (1, 1), (2, 3)])), [.t 100, .t 104, .t 107], none⟩,
      ⟨(some 109), (.pure (.iaddS 5)), [.t 95, .t 96], none⟩,
      ⟨none, (.eff (.store 5)), [.t 109, .t 108], none⟩] true)
    .skip)
def c91_10 : C := (.cond (.t 63) (.seq (.region [
      ⟨(some 77), (.pure (.build [(.int .i64 (Int.ofNat 0)), (.int .i64 (Int.ofNat 0)), (.int .i64 (Int.ofNat 0))] [(0, 1)])), [.c (.int .i64 (Int.ofNat 11))], none⟩,
      ⟨none, (.eff (.store 3)), [.t 6, .t 77], none⟩] false) c91_11)
    (.seq (.region [
      ⟨(some 79), (.pure .mov), [.t 0], none⟩,
      ⟨(some 80), (.pure .nilchk), [.t 79], none⟩,
      ⟨(some 81), (.pure (.fadd 3)), [.t 80], none⟩,
      ⟨(some 82), (.read (.load 1 false) []), [.t 81], none⟩,
      ⟨(some 83), (.pure .mov), [.t 7], none⟩,
      ⟨(some 84), (.pure (.iaddS 5)), [.t 82, .t 83], none⟩,
      ⟨(some 85), (.pure (.fadd 1)), [.t 84], none⟩,
      ⟨(some 86), (.read (.load 1 false) []), [.t 85], none⟩,
      ⟨(some 87), (.read (.load 1 false) []), [.t 4], none⟩,
      ⟨(some 88), (.pure .nilchk), [.t 87], none⟩,
      ⟨(some 89), (.pure (.fadd 2)), [.t 88], none⟩,
      ⟨(some 90), (.read (.load 1 false) []), [.t 89], none⟩,
      ⟨(some 91), (.pure (.bin .lss)), [.t 86, .t 90], none⟩,
      ⟨(some 78), (.pure .mov), [.t 91], none⟩] false) c91_13))
def c91_6 : C := (.cond (.t 26) (.seq (.region [
      ⟨(some 29), (.pure .mov), [.t 0], none⟩,
      ⟨(some 30), (.pure .mov), [.t 0], none⟩,
      ⟨(some 31), (.pure .nilchk), [.t 30], none⟩,
      ⟨(some 32), (.pure (.fadd 3)), [.t 31], none⟩,
      ⟨(some 33), (.read (.load 1 false) [16]), [.t 32], none⟩,
      ⟨(some 34), (.read (.load 1 false) [16]), [.t 4], none⟩,
      ⟨(some 35), (.pure .nilchk), [.t 34], none⟩,
      ⟨(some 36), (.pure (.fadd 1)), [.t 35], none⟩,
      ⟨(some 37), (.read (.load 1 false) [16]), [.t 36], none⟩,
      ⟨(some 38), (.read (.load 1 false) [16]), [.t 4], none⟩,
      ⟨(some 39), (.pure .nilchk), [.t 38], none⟩,
      ⟨(some 40), (.pure (.fadd 2)), [.t 39], none⟩,
      ⟨(some 41), (.read (.load 1 false) [16]), [.t 40], none⟩,
      ⟨(some 42), (.pure .mov), [.t 2], none⟩,
      ⟨(some 43), (.read (.load 1 false) []), [.t 4], none⟩,
      ⟨(some 44), .callv, [.t 42, .t 43], none⟩,
      ⟨(some 45), (.pure (.build [(.int .i64 (Int.ofNat 0)), (.int .i64 (Int.ofNat 0)), (.int .i64 (Int.ofNat 0)), (.int .i64 (Int.ofNat 0)), (.int .i64 (Int.ofNat 0))] [(0, 1), (1, 1), (2, 3)])), [.t 37, .t 41, .t 44], none⟩,
      ⟨(some 46), (.alloc (.bslice [(.int .i64 (Int.ofNat 0)), (.int .i64 (Int.ofNat 0)), (.int .i64 (Int.ofNat 0)), (.int .i64 (Int.ofNat 0)), (.int .i64 (Int.ofNat 0))] [(0, 5)] 5 1)), [.t 45], none⟩,
      ⟨(some 47), (.eff (.app 5 40)), [.t 33, .t 46], none⟩,
      ⟨(some 48), (.pure .nilchk), [.t 29], none⟩,
      ⟨(some 49), (.pure (.fadd 3)), [.t 48], none⟩,
      ⟨none, (.eff (.store 1)), [.t 49, .t 47], none⟩] true) c91_7)
    (.seq (.region [
      ⟨(some 64), (.pure .mov), [.t 0], none⟩,
      ⟨(some 65), (.pure .nilchk), [.t 64], none⟩,
      ⟨(some 66), (.pure (.fadd 3)), [.t 65], none⟩,
      ⟨(some 67), (.read (.load 1 false) []), [.t 66], none⟩,
      ⟨(some 68), (.pure .mov), [.t 7], none⟩,
      ⟨(some 69), (.pure (.iaddS 5)), [.t 67, .t 68], none⟩,
      ⟨(some 70), (.pure (.fadd 1)), [.t 69], none⟩,
      ⟨(some 71), (.read (.load 1 false) []), [.t 70], none⟩,
      ⟨(some 72), (.read (.load 1 false) []), [.t 4], none⟩,
      ⟨(some 73), (.pure .nilchk), [.t 72], none⟩,
      ⟨(some 74), (.pure (.fadd 2)), [.t 73], none⟩,
      ⟨(some 75), (.read (.load 1 false) []), [.t 74], none⟩,
      ⟨(some 76), (.pure (.bin .gtr)), [.t 71, .t 75], none⟩,
      ⟨(some 63), (.pure .mov), [.t 76], none⟩] false) c91_10))
def c91_3 : C := (.cond (.t 14) (.seq (.region [
      ⟨(some 25), (.pure (.build [(.int .i64 (Int.ofNat 0)), (.int .i64 (Int.ofNat 0)), (.int .i64 (Int.ofNat 0))] [(0, 1)])), [.c (.int .i64 (Int.ofNat 8))], none⟩,
      ⟨none, (.eff (.store 3)), [.t 6, .t 25], none⟩] false) c91_4)
    (.seq (.region [
      ⟨(some 27), (.pure .mov), [.t 7], none⟩,
      ⟨(some 28), (.pure (.bin .lss)), [.t 27, .c (.int .i64 (Int.ofNat 0))], none⟩,
      ⟨(some 26), (.pure .mov), [.t 28], none⟩] false) c91_6))
def c91_1 : C := (.seq (.block 0 (.seq (.region [
      ⟨(some 15), (.pure .mov), [.t 7], none⟩,
      ⟨(some 16), (.pure (.bin .lss)), [.t 15, .c (.int .i64 (Int.ofNat 0))], none⟩,
      ⟨(some 17), (.pure .mov), [.t 16], none⟩,
      ⟨(some 18), (.pure .mov), [.t 0], (some (17, true))⟩,
      ⟨(some 19), (.pure .nilchk), [.t 18], (some (17, true))⟩,
      ⟨(some 20), (.pure (.fadd 3)), [.t 19], (some (17, true))⟩,
      ⟨(some 21), (.read (.load 1 false) []), [.t 20], (some (17, true))⟩,
      ⟨(some 22), (.pure .lenS), [.t 21], (some (17, true))⟩,
      ⟨(some 23), (.pure (.bin .geq)), [.t 22, .c (.int .i64 (Int.ofNat 3))], (some (17, true))⟩,
      ⟨(some 24), (.pure .pick), [.t 17, .t 23, .c (.bool false)], none⟩,
      ⟨(some 14), (.pure .mov), [.t 24], none⟩] false) c91_3)) c91_2)
def c91_0 : C := (.seq (.region [
      ⟨(some 8), (.pure .mov), [.t 0], none⟩,
      ⟨(some 9), (.pure .nilchk), [.t 8], none⟩,
      ⟨(some 10), (.pure (.fadd 3)), [.t 9], none⟩,
      ⟨(some 11), (.read (.load 1 false) []), [.t 10], none⟩,
      ⟨(some 12), (.pure (.func (.func 108) 0)), [.t 4], none⟩,
      ⟨(some 13), (.call 107), [.t 11, .t 12], none⟩,
      ⟨(some 7), (.pure .mov), [.t 13], none⟩] false) c91_1)
def k91 : DFn := ⟨118, (.seq (.region [
      ⟨(some 4), (.alloc .box), [.t 1], none⟩,
      ⟨(some 6), (.alloc (.alloc [(.int .i64 (Int.ofNat 0)), (.int .i64 (Int.ofNat 0)), (.int .i64 (Int.ofNat 0))])), [], none⟩] false) c91_0), [.cell 6 3 true]⟩
theorem c91 : (match Tryz.prog.funcs[91]? with | some fn => compileFn Tryz.prog 4 [none, none, some [0, 6, 7], none, none, some [6], none, none, none, some [6], none, none, some [6], none, none, some [6]] fn | none => none) = some k91 := by kernel_rfl


/-- (*tompion/state.State).set -/
def c92_22 : C := .ret
def c92_21 : C := (.keep [4] c92_22)
def c92_20 : C := (.seq (.region [
      ⟨(some 138), (.pure .mov), [.t 0], none⟩,
      ⟨(some 139), (.pure .nilchk), [.t 138], none⟩,
      ⟨(some 140), (.pure (.fadd 1)), [.t 139], none⟩,
      ⟨(some 141), (.read (.load 1 false) []), [.t 140], none⟩,
      ⟨(some 142), (.pure .mov), [.t 5], none⟩,
      ⟨(some 143), (.pure (.build [(.int .i64 (Int.ofNat 0)), (.int .i64 (Int.ofNat 0)), (.int .i64 (Int.ofNat 0))] [(1, 1), (2, 1)])), [.t 141, .t 142], none⟩,
      ⟨none, (.eff (.store 3)), [.t 4, .t 143], none⟩] false) c92_21)
def c92_19 : C := (.seq (.region [
      ⟨(some 112), (.pure .mov), [.t 0], none⟩,
      ⟨(some 113), (.pure .nilchk), [.t 112], none⟩,
      ⟨(some 114), (.pure (.fadd 2)), [.t 113], none⟩,
      ⟨(some 115), (.read (.load 1 false) []), [.t 114], none⟩,
      ⟨(some 116), (.pure .mov), [.t 1], none⟩,
      ⟨(some 117), (.pure .nilchk), [.t 116], none⟩,
      ⟨(some 118), (.pure (.fadd 3)), [.t 117], none⟩,
      ⟨(some 119), (.read (.load 1 false) []), [.t 118], none⟩,
      ⟨(some 120), (.pure .mov), [.t 1], none⟩,
      ⟨(some 121), (.pure .nilchk), [.t 120], none⟩,
      ⟨(some 122), (.pure (.fadd 3)), [.t 121], none⟩,
      ⟨(some 123), (.read (.load 1 false) []), [.t 122], none⟩,
      ⟨(some 124), (.pure .mov), [.t 1], none⟩,
      ⟨(some 125), (.pure .nilchk), [.t 124], none⟩,
      ⟨(some 126), (.pure (.fadd 1)), [.t 125], none⟩,
      ⟨(some 127), (.read (.load 1 false) []), [.t 126], none⟩,
      ⟨(some 128), (.pure .mov), [.t 0], none⟩,
      ⟨(some 129), (.pure .nilchk), [.t 128], none⟩,
      ⟨(some 130), (.pure (.fadd 1)), [.t 129], none⟩,
      ⟨(some 131), (.read (.load 1 false) []), [.t 130], none⟩,
      ⟨(some 132), (.pure .mov), [.t 5], none⟩,
      ⟨(some 133), (.pure .mov), [.t 1], none⟩,
      ⟨(some 134), (.pure .nilchk), [.t 133], none⟩,
      ⟨(some 135), (.pure (.fadd 9)), [.t 134], none⟩,
      ⟨(some 136), (.read (.load 1 false) []), [.t 135], none⟩,
      ⟨(some 137), (.pure (.build [(.int .i64 (Int.ofNat 0)), (.int .i64 (Int.ofNat 0)), (.int .i64 (Int.ofNat 0)), (.int .i64 (Int.ofNat 0)), (.string ⟨⟨[]⟩⟩)] [(0, 1), (1, 1), (2, 1), (3, 1), (4, 1)])), [.t 123, .t 127, .t 131, .t 132, .t 136], none⟩,
      ⟨none, (.eff (.mupd (.one .i))), [.t 115, .t 119, .t 137], none⟩] false) c92_20)
def c92_14 : C := (.seq (.region [
      ⟨(some 105), (.pure .mov), [.t 0], none⟩,
      ⟨(some 106), (.pure .nilchk), [.t 105], none⟩,
      ⟨(some 107), (.pure (.fadd 1)), [.t 106], none⟩,
      ⟨(some 108), (.read (.load 1 false) []), [.t 107], none⟩,
      ⟨(some 109), (.pure (.bin .add)), [.t 108, .c (.int .i64 (Int.ofNat 1))], none⟩,
      ⟨(some 110), (.pure .nilchk), [.t 105], none⟩,
      ⟨(some 111), (.pure (.fadd 1)), [.t 110], none⟩,
      ⟨none, (.eff (.store 1)), [.t 111, .t 109], none⟩] false) c92_19)
def c92_18 : C := .ret
def c92_17 : C := (.keep [4] c92_18)
def c92_16 : C := (.cond (.t 103) (.seq (.region [
      ⟨(some 104), (.pure (.build [(.int .i64 (Int.ofNat 0)), (.int .i64 (Int.ofNat 0)), (.int .i64 (Int.ofNat 0))] [(0, 1)])), [.c (.int .i64 (Int.ofNat 5))], none⟩,
      ⟨none, (.eff (.store 3)), [.t 4, .t 104], none⟩] false) c92_17)
    .skip)
def c92_15 : C := (.seq (.region [
      ⟨(some 90), (.pure .mov), [.t 9], none⟩,
      ⟨(some 91), (.pure (.un .not)), [.t 90], none⟩,
      ⟨(some 92), (.pure .mov), [.t 91], none⟩,
      ⟨(some 93), (.pure .mov), [.t 0], (some (92, true))⟩,
      ⟨(some 94), (.pure .nilchk), [.t 93], (some (92, true))⟩,
      ⟨(some 95), (.pure (.fadd 2)), [.t 94], (some (92, true))⟩,
      ⟨(some 96), (.read (.load 1 false) []), [.t 95], (some (92, true))⟩,
      ⟨(some 97), (.read .mlen []), [.t 96], (some (92, true))⟩,
      ⟨(some 98), (.pure .mov), [.t 0], (some (92, true))⟩,
      ⟨(some 99), (.pure .nilchk), [.t 98], (some (92, true))⟩,
      ⟨(some 100), (.pure (.fadd 0)), [.t 99], (some (92, true))⟩,
      ⟨(some 101), (.read (.load 1 false) []), [.t 100], (some (92, true))⟩,
      ⟨(some 102), (.pure (.bin .geq)), [.t 97, .t 101], (some (92, true))⟩,
      ⟨(some 103), (.pure .pick), [.t 92, .t 102, .c (.bool false)], none⟩] false) c92_16)
def c92_13 : C := (.seq (.seq (.region [
      ⟨(some 79), (.pure .mov), [.t 0], none⟩,
      ⟨(some 80), (.pure .nilchk), [.t 79], none⟩,
      ⟨(some 81), (.pure (.fadd 2)), [.t 80], none⟩,
      ⟨(some 82), (.read (.load 1 false) []), [.t 81], none⟩,
      ⟨(some 83), (.pure .mov), [.t 1], none⟩,
      ⟨(some 84), (.pure .nilchk), [.t 83], none⟩,
      ⟨(some 85), (.pure (.fadd 3)), [.t 84], none⟩,
      ⟨(some 86), (.read (.load 1 false) []), [.t 85], none⟩,
      ⟨(some 87), (.read (.lookup (.one .i) (.agg ⟨[(.int .i64 (Int.ofNat 0)), (.int .i64 (Int.ofNat 0)), (.int .i64 (Int.ofNat 0)), (.int .i64 (Int.ofNat 0)), (.string ⟨⟨[]⟩⟩)]⟩) true) []), [.t 82, .t 86], none⟩,
      ⟨(some 78), (.pure .mov), [.t 87], none⟩,
      ⟨(some 88), (.pure (.extract 0)), [.t 78], none⟩,
      ⟨(some 89), (.pure (.extract 1)), [.t 78], none⟩,
      ⟨(some 8), (.alloc (.alloc [(.int .i64 (Int.ofNat 0)), (.int .i64 (Int.ofNat 0)), (.int .i64 (Int.ofNat 0)), (.int .i64 (Int.ofNat 0)), (.string ⟨⟨[]⟩⟩)])), [], none⟩,
      ⟨none, (.eff (.store 5)), [.t 8, .t 88], none⟩,
      ⟨(some 9), (.pure .mov), [.t 89], none⟩] false) c92_15) c92_14)
def c92_6 : C := (.keep [0, 1, 4, 5] c92_13)
def c92_9 : C := (.region [
      ⟨(some 77), (.pure .mov), [.t 6], none⟩,
      ⟨(some 5), (.pure .mov), [.t 77], none⟩] false)
def c92_12 : C := .ret
def c92_11 : C := (.keep [4] c92_12)
def c92_10 : C := (.cond (.t 74) (.seq (.region [
      ⟨(some 75), (.pure .mov), [.t 7], none⟩,
      ⟨(some 76), (.pure (.build [(.int .i64 (Int.ofNat 0)), (.int .i64 (Int.ofNat 0)), (.int .i64 (Int.ofNat 0))] [(0, 1)])), [.t 75], none⟩,
      ⟨none, (.eff (.store 3)), [.t 4, .t 76], none⟩] false) c92_11)
    .skip)
def c92_8 : C := (.seq (.seq (.region [
      ⟨(some 73), (.pure .mov), [.t 7], none⟩,
      ⟨(some 74), (.pure (.bin .neq)), [.t 73, .c (.int .i64 (Int.ofNat 0))], none⟩] false) c92_10) c92_9)
def c92_7 : C := (.cond (.t 59) (.seq (.region [
      ⟨(some 61), (.pure .mov), [.t 0], none⟩,
      ⟨(some 62), (.pure .mov), [.t 1], none⟩,
      ⟨(some 63), (.pure .nilchk), [.t 62], none⟩,
      ⟨(some 64), (.pure (.fadd 9)), [.t 63], none⟩,
      ⟨(some 65), (.read (.load 1 false) []), [.t 64], none⟩,
      ⟨(some 66), (.pure .mov), [.t 1], none⟩,
      ⟨(some 67), (.pure .nilchk), [.t 66], none⟩,
      ⟨(some 68), (.pure (.fadd 7)), [.t 67], none⟩,
      ⟨(some 69), (.read (.load 1 false) []), [.t 68], none⟩,
      ⟨(some 70), (.call 109), [.t 61, .t 65, .t 69], none⟩,
      ⟨(some 60), (.pure .mov), [.t 70], none⟩,
      ⟨(some 71), (.pure (.extract 0)), [.t 60], none⟩,
      ⟨(some 72), (.pure (.extract 1)), [.t 60], none⟩,
      ⟨(some 6), (.pure .mov), [.t 71], none⟩,
      ⟨(some 7), (.pure .mov), [.t 72], none⟩] false) c92_8)
    .skip)
def c92_5 : C := (.seq (.seq (.region [
      ⟨(some 55), (.pure .mov), [.t 1], none⟩,
      ⟨(some 56), (.pure .nilchk), [.t 55], none⟩,
      ⟨(some 57), (.pure (.fadd 9)), [.t 56], none⟩,
      ⟨(some 58), (.read (.load 1 false) []), [.t 57], none⟩,
      ⟨(some 59), (.pure (.bin .neq)), [.t 58, .c (.string ⟨⟨[]⟩⟩)], none⟩] false) c92_7) c92_6)
def c92_1 : C := (.seq (.region [
      ⟨(some 51), (.pure .mov), [.t 1], none⟩,
      ⟨(some 52), (.pure .nilchk), [.t 51], none⟩,
      ⟨(some 53), (.pure (.fadd 6)), [.t 52], none⟩,
      ⟨(some 54), (.read (.load 1 false) []), [.t 53], none⟩,
      ⟨(some 5), (.pure .mov), [.t 54], none⟩] false) c92_5)
def c92_4 : C := .ret
def c92_3 : C := (.keep [4] c92_4)
def c92_2 : C := (.cond (.t 49) (.seq (.region [
      ⟨(some 50), (.pure (.build [(.int .i64 (Int.ofNat 0)), (.int .i64 (Int.ofNat 0)), (.int .i64 (Int.ofNat 0))] [(0, 1)])), [.c (.int .i64 (Int.ofNat 1))], none⟩,
      ⟨none, (.eff (.store 3)), [.t 4, .t 50], none⟩] false) c92_3)
    .skip)
def c92_0 : C := (.seq (.seq (.region [
      ⟨(some 10), (.pure .mov), [.t 1], none⟩,
      ⟨(some 11), (.pure .nilchk), [.t 10], none⟩,
      ⟨(some 12), (.pure (.fadd 3)), [.t 11], none⟩,
      ⟨(some 13), (.read (.load 1 false) []), [.t 12], none⟩,
      ⟨(some 14), (.pure (.bin .lss)), [.t 13, .c (.int .i64 (Int.ofNat 0))], none⟩,
      ⟨(some 15), (.pure .mov), [.t 14], none⟩,
      ⟨(some 16), (.pure .mov), [.t 1], (some (15, false))⟩,
      ⟨(some 17), (.pure .nilchk), [.t 16], (some (15, false))⟩,
      ⟨(some 18), (.pure (.fadd 3)), [.t 17], (some (15, false))⟩,
      ⟨(some 19), (.read (.load 1 false) []), [.t 18], (some (15, false))⟩,
      ⟨(some 20), (.pure (.bin .gtr)), [.t 19, .c (.int .i64 (Int.ofNat 1000))], (some (15, false))⟩,
      ⟨(some 21), (.pure .pick), [.t 15, .c (.bool true), .t 20], none⟩,
      ⟨(some 22), (.pure .mov), [.t 21], none⟩,
      ⟨(some 23), (.pure .mov), [.t 1], (some (22, false))⟩,
      ⟨(some 24), (.pure .nilchk), [.t 23], (some (22, false))⟩,
      ⟨(some 25), (.pure (.fadd 6)), [.t 24], (some (22, false))⟩,
      ⟨(some 26), (.read (.load 1 false) []), [.t 25], (some (22, false))⟩,
      ⟨(some 27), (.pure (.bin .lss)), [.t 26, .c (.int .i64 (Int.ofNat 0))], (some (22, false))⟩,
      ⟨(some 28), (.pure .pick), [.t 22, .c (.bool true), .t 27], none⟩,
      ⟨(some 29), (.pure .mov), [.t 28], none⟩,
      ⟨(some 30), (.pure .mov), [.t 1], (some (29, false))⟩,
      ⟨(some 31), (.pure .nilchk), [.t 30], (some (29, false))⟩,
      ⟨(some 32), (.pure (.fadd 6)), [.t 31], (some (29, false))⟩,
      ⟨(some 33), (.read (.load 1 false) []), [.t 32], (some (29, false))⟩,
      ⟨(some 34), (.pure (.bin .gtr)), [.t 33, .c (.int .i64 (Int.ofNat 1099511627776))], (some (29, false))⟩,
      ⟨(some 35), (.pure .pick), [.t 29, .c (.bool true), .t 34], none⟩,
      ⟨(some 36), (.pure .mov), [.t 35], none⟩,
      ⟨(some 37), (.pure .mov), [.t 1], (some (36, false))⟩,
      ⟨(some 38), (.pure .nilchk), [.t 37], (some (36, false))⟩,
      ⟨(some 39), (.pure (.fadd 9)), [.t 38], (some (36, false))⟩,
      ⟨(some 40), (.read (.load 1 false) []), [.t 39], (some (36, false))⟩,
      ⟨(some 41), (.pure (.bin .neq)), [.t 40, .c (.string ⟨⟨[]⟩⟩)], (some (36, false))⟩,
      ⟨(some 42), (.pure .mov), [.t 41], (some (36, false))⟩,
      ⟨(some 43), (.pure .mov), [.t 1], (some (42, true))⟩,
      ⟨(some 44), (.pure .nilchk), [.t 43], (some (42, true))⟩,
      ⟨(some 45), (.pure (.fadd 6)), [.t 44], (some (42, true))⟩,
      ⟨(some 46), (.read (.load 1 false) []), [.t 45], (some (42, true))⟩,
      ⟨(some 47), (.pure (.bin .neq)), [.t 46, .c (.int .i64 (Int.ofNat 0))], (some (42, true))⟩,
      ⟨(some 48), (.pure .pick), [.t 42, .t 47, .c (.bool false)], (some (36, false))⟩,
      ⟨(some 49), (.pure .pick), [.t 36, .c (.bool true), .t 48], none⟩] false) c92_2) c92_1)
def k92 : DFn := ⟨144, (.seq (.region [
      ⟨(some 4), (.alloc (.alloc [(.int .i64 (Int.ofNat 0)), (.int .i64 (Int.ofNat 0)), (.int .i64 (Int.ofNat 0))])), [], none⟩] false) c92_0), [.cell 4 3 true]⟩
theorem c92 : (match Tryz.prog.funcs[92]? with | some fn => compileFn Tryz.prog 4 [none, none, none, none, some [4], none, some [0, 1, 4, 5], none, none, none, none, none, some [4], none, none, none, none, some [4], none, none, none, some [4]] fn | none => none) = some k92 := by kernel_rfl


/-- (*tompion/state.State).fire -/
def c94_11 : C := .ret
def c94_10 : C := (.keep [4] c94_11)
def c94_9 : C := (.seq (.region [
      ⟨(some 59), (.pure .mov), [.t 1], none⟩,
      ⟨(some 60), (.pure .nilchk), [.t 59], none⟩,
      ⟨(some 61), (.pure (.fadd 4)), [.t 60], none⟩,
      ⟨(some 62), (.read (.load 1 false) []), [.t 61], none⟩,
      ⟨(some 63), (.pure .mov), [.t 1], none⟩,
      ⟨(some 64), (.pure .nilchk), [.t 63], none⟩,
      ⟨(some 65), (.pure (.fadd 5)), [.t 64], none⟩,
      ⟨(some 66), (.read (.load 1 false) []), [.t 65], none⟩,
      ⟨(some 67), (.pure (.build [(.int .i64 (Int.ofNat 0)), (.int .i64 (Int.ofNat 0)), (.int .i64 (Int.ofNat 0))] [(1, 1), (2, 1)])), [.t 62, .t 66], none⟩,
      ⟨none, (.eff (.store 3)), [.t 4, .t 67], none⟩] false) c94_10)
def c94_6 : C := (.keep [1, 4] c94_9)
def c94_8 : C := (.region [
      ⟨(some 50), (.pure .mov), [.t 0], none⟩,
      ⟨(some 51), (.pure .nilchk), [.t 50], none⟩,
      ⟨(some 52), (.pure (.fadd 2)), [.t 51], none⟩,
      ⟨(some 53), (.read (.load 1 false) []), [.t 52], none⟩,
      ⟨(some 54), (.pure .mov), [.t 1], none⟩,
      ⟨(some 55), (.pure .nilchk), [.t 54], none⟩,
      ⟨(some 56), (.pure (.fadd 3)), [.t 55], none⟩,
      ⟨(some 57), (.read (.load 1 false) []), [.t 56], none⟩,
      ⟨(some 58), (.read (.load 5 true) []), [.t 5], none⟩,
      ⟨none, (.eff (.mupd (.one .i))), [.t 53, .t 57, .t 58], none⟩] false)
def c94_7 : C := (.cond (.t 24) (.region [
      ⟨(some 25), (.pure .mov), [.t 0], none⟩,
      ⟨(some 26), (.pure .nilchk), [.t 25], none⟩,
      ⟨(some 27), (.pure (.fadd 2)), [.t 26], none⟩,
      ⟨(some 28), (.read (.load 1 false) []), [.t 27], none⟩,
      ⟨(some 29), (.pure .mov), [.t 1], none⟩,
      ⟨(some 30), (.pure .nilchk), [.t 29], none⟩,
      ⟨(some 31), (.pure (.fadd 3)), [.t 30], none⟩,
      ⟨(some 32), (.read (.load 1 false) []), [.t 31], none⟩,
      ⟨none, (.eff (.del (.one .i))), [.t 28, .t 32], none⟩] false)
    (.seq (.region [
      ⟨(some 34), (.pure .mov), [.t 0], none⟩,
      ⟨(some 35), (.pure (.fadd 4)), [.t 5], none⟩,
      ⟨(some 36), (.read (.load 1 false) []), [.t 35], none⟩,
      ⟨(some 37), (.pure .mov), [.t 1], none⟩,
      ⟨(some 38), (.pure .nilchk), [.t 37], none⟩,
      ⟨(some 39), (.pure (.fadd 5)), [.t 38], none⟩,
      ⟨(some 40), (.read (.load 1 false) []), [.t 39], none⟩,
      ⟨(some 41), (.pure .mov), [.t 1], none⟩,
      ⟨(some 42), (.pure .nilchk), [.t 41], none⟩,
      ⟨(some 43), (.pure (.fadd 7)), [.t 42], none⟩,
      ⟨(some 44), (.read (.load 1 false) []), [.t 43], none⟩,
      ⟨(some 45), (.pure .max), [.t 40, .t 44], none⟩,
      ⟨(some 46), (.call 109), [.t 34, .t 36, .t 45], none⟩,
      ⟨(some 33), (.pure .mov), [.t 46], none⟩,
      ⟨(some 47), (.pure (.extract 0)), [.t 33], none⟩,
      ⟨(some 48), (.pure (.extract 1)), [.t 33], none⟩,
      ⟨(some 49), (.pure (.fadd 3)), [.t 5], none⟩,
      ⟨none, (.eff (.store 1)), [.t 49, .t 47], none⟩] false) c94_8))
def c94_5 : C := (.seq (.seq (.region [
      ⟨(some 22), (.pure (.fadd 4)), [.t 5], none⟩,
      ⟨(some 23), (.read (.load 1 false) []), [.t 22], none⟩,
      ⟨(some 24), (.pure (.bin .eql)), [.t 23, .c (.string ⟨⟨[]⟩⟩)], none⟩] false) c94_7) c94_6)
def c94_1 : C := (.seq (.region [
      ⟨(some 13), (.pure .mov), [.t 0], none⟩,
      ⟨(some 14), (.pure .nilchk), [.t 13], none⟩,
      ⟨(some 15), (.pure (.fadd 2)), [.t 14], none⟩,
      ⟨(some 16), (.read (.load 1 false) []), [.t 15], none⟩,
      ⟨(some 17), (.pure .mov), [.t 1], none⟩,
      ⟨(some 18), (.pure .nilchk), [.t 17], none⟩,
      ⟨(some 19), (.pure (.fadd 3)), [.t 18], none⟩,
      ⟨(some 20), (.read (.load 1 false) []), [.t 19], none⟩,
      ⟨(some 21), (.read (.lookup (.one .i) (.agg ⟨[(.int .i64 (Int.ofNat 0)), (.int .i64 (Int.ofNat 0)), (.int .i64 (Int.ofNat 0)), (.int .i64 (Int.ofNat 0)), (.string ⟨⟨[]⟩⟩)]⟩) false) []), [.t 16, .t 20], none⟩,
      ⟨(some 5), (.alloc (.alloc [(.int .i64 (Int.ofNat 0)), (.int .i64 (Int.ofNat 0)), (.int .i64 (Int.ofNat 0)), (.int .i64 (Int.ofNat 0)), (.string ⟨⟨[]⟩⟩)])), [], none⟩,
      ⟨none, (.eff (.store 5)), [.t 5, .t 21], none⟩] false) c94_5)
def c94_4 : C := .ret
def c94_3 : C := (.keep [4] c94_4)
def c94_2 : C := (.cond (.t 11) (.seq (.region [
      ⟨(some 12), (.pure (.build [(.int .i64 (Int.ofNat 0)), (.int .i64 (Int.ofNat 0)), (.int .i64 (Int.ofNat 0))] [(0, 1)])), [.c (.int .i64 (Int.ofNat 6))], none⟩,
      ⟨none, (.eff (.store 3)), [.t 4, .t 12], none⟩] false) c94_3)
    .skip)
def c94_0 : C := (.seq (.seq (.region [
      ⟨(some 6), (.pure .mov), [.t 0], none⟩,
      ⟨(some 7), (.pure .mov), [.t 1], none⟩,
      ⟨(some 8), (.pure .nilchk), [.t 7], none⟩,
      ⟨(some 9), (.read (.load 10 true) []), [.t 8], none⟩,
      ⟨(some 10), (.call 110), [.t 6, .t 9], none⟩,
      ⟨(some 11), (.pure (.un .not)), [.t 10], none⟩] false) c94_2) c94_1)
def k94 : DFn := ⟨68, (.seq (.region [
      ⟨(some 4), (.alloc (.alloc [(.int .i64 (Int.ofNat 0)), (.int .i64 (Int.ofNat 0)), (.int .i64 (Int.ofNat 0))])), [], none⟩] false) c94_0), [.cell 4 3 true]⟩
theorem c94 : (match Tryz.prog.funcs[94]? with | some fn => compileFn Tryz.prog 4 [none, none, none, none, some [4], none, some [1, 4], none, none, none, some [4]] fn | none => none) = some k94 := by kernel_rfl


/-- (*tompion/wheel.Wheel).Remove -/
def c95_21 : C := .ret
def c95_20 : C := (.keep [4] c95_21)
def c95_19 : C := (.seq (.region [
      ⟨(some 4), (.pure .mov), [.c (.bool true)], none⟩] false) c95_20)
def c95_18 : C := (.seq (.region [
      ⟨(some 87), (.pure .mov), [.t 0], none⟩,
      ⟨(some 88), (.pure .nilchk), [.t 87], none⟩,
      ⟨(some 89), (.pure (.fadd 1)), [.t 88], none⟩,
      ⟨(some 90), (.read (.load 1 false) []), [.t 89], none⟩,
      ⟨(some 91), (.pure .mov), [.t 1], none⟩,
      ⟨none, (.eff (.del (.one .i))), [.t 90, .t 91], none⟩] false) c95_19)
def c95_10 : C := (.keep [0, 1] c95_18)
def c95_17 : C := (.cond (.t 55) (.region [
      ⟨(some 56), (.pure .mov), [.t 9], none⟩,
      ⟨(some 57), (.pure .nilchk), [.t 56], none⟩,
      ⟨(some 58), (.pure (.fadd 0)), [.t 57], none⟩,
      ⟨(some 59), (.read (.load 1 false) []), [.t 58], none⟩,
      ⟨(some 60), (.pure .mov), [.t 8], none⟩,
      ⟨(some 61), (.pure (.bin .shl)), [.c (.int .u64 (Int.ofNat 1)), .t 60], none⟩,
      ⟨(some 62), (.pure (.bin .andNot)), [.t 59, .t 61], none⟩,
      ⟨(some 63), (.pure .nilchk), [.t 56], none⟩,
      ⟨(some 64), (.pure (.fadd 0)), [.t 63], none⟩,
      ⟨none, (.eff (.store 1)), [.t 64, .t 62], none⟩] false)
    .skip)
def c95_16 : C := (.seq (.region [
      ⟨(some 48), (.pure .mov), [.t 9], none⟩,
      ⟨(some 49), (.pure .mov), [.t 8], none⟩,
      ⟨(some 50), (.pure .nilchk), [.t 48], none⟩,
      ⟨(some 51), (.pure (.fadd 1)), [.t 50], none⟩,
      ⟨(some 52), (.pure (.iaddA 64 1)), [.t 51, .t 49], none⟩,
      ⟨(some 53), (.read (.load 1 false) []), [.t 52], none⟩,
      ⟨(some 54), (.pure .lenS), [.t 53], none⟩,
      ⟨(some 55), (.pure (.bin .eql)), [.t 54, .c (.int .i64 (Int.ofNat 0))], none⟩] false) c95_17)
def c95_15 : C := (.seq (.region [
      ⟨(some 35), (.pure .mov), [.t 9], none⟩,
      ⟨(some 36), (.pure .mov), [.t 8], none⟩,
      ⟨(some 37), (.pure .mov), [.t 9], none⟩,
      ⟨(some 38), (.pure .mov), [.t 8], none⟩,
      ⟨(some 39), (.pure .nilchk), [.t 37], none⟩,
      ⟨(some 40), (.pure (.fadd 1)), [.t 39], none⟩,
      ⟨(some 41), (.pure (.iaddA 64 1)), [.t 40, .t 38], none⟩,
      ⟨(some 42), (.read (.load 1 false) []), [.t 41], none⟩,
      ⟨(some 43), (.pure .mov), [.t 1], none⟩,
      ⟨(some 44), (.call 111), [.t 42, .t 43], none⟩,
      ⟨(some 45), (.pure .nilchk), [.t 35], none⟩,
      ⟨(some 46), (.pure (.fadd 1)), [.t 45], none⟩,
      ⟨(some 47), (.pure (.iaddA 64 1)), [.t 46, .t 36], none⟩,
      ⟨none, (.eff (.store 1)), [.t 47, .t 44], none⟩] false) c95_16)
def c95_14 : C := (.cond (.t 76) (.region [
      ⟨(some 78), (.pure .mov), [.t 0], none⟩,
      ⟨(some 79), (.pure .mov), [.t 0], none⟩,
      ⟨(some 80), (.pure .nilchk), [.t 79], none⟩,
      ⟨(some 81), (.pure (.fadd 392)), [.t 80], none⟩,
      ⟨(some 82), (.read (.load 1 false) []), [.t 81], none⟩,
      ⟨(some 83), (.pure .mov), [.t 1], none⟩,
      ⟨(some 84), (.call 111), [.t 82, .t 83], none⟩,
      ⟨(some 85), (.pure .nilchk), [.t 78], none⟩,
      ⟨(some 86), (.pure (.fadd 392)), [.t 85], none⟩,
      ⟨none, (.eff (.store 1)), [.t 86, .t 84], none⟩] false)
    (.seq (.region [
      ⟨(some 30), (.pure .mov), [.t 0], none⟩,
      ⟨(some 31), (.pure .mov), [.t 7], none⟩,
      ⟨(some 32), (.pure .nilchk), [.t 30], none⟩,
      ⟨(some 33), (.pure (.fadd 2)), [.t 32], none⟩,
      ⟨(some 34), (.pure (.iaddA 6 65)), [.t 33, .t 31], none⟩,
      ⟨(some 9), (.pure .mov), [.t 34], none⟩] false) c95_15))
def c95_13 : C := (.cond (.t 65) (.region [
      ⟨(some 67), (.pure .mov), [.t 0], none⟩,
      ⟨(some 68), (.pure .mov), [.t 0], none⟩,
      ⟨(some 69), (.pure .nilchk), [.t 68], none⟩,
      ⟨(some 70), (.pure (.fadd 393)), [.t 69], none⟩,
      ⟨(some 71), (.read (.load 1 false) []), [.t 70], none⟩,
      ⟨(some 72), (.pure .mov), [.t 1], none⟩,
      ⟨(some 73), (.call 111), [.t 71, .t 72], none⟩,
      ⟨(some 74), (.pure .nilchk), [.t 67], none⟩,
      ⟨(some 75), (.pure (.fadd 393)), [.t 74], none⟩,
      ⟨none, (.eff (.store 1)), [.t 75, .t 73], none⟩] false)
    (.seq (.region [
      ⟨(some 77), (.pure (.bin .eql)), [.t 29, .c (.int .i64 (Int.ofNat 6))], none⟩,
      ⟨(some 76), (.pure .mov), [.t 77], none⟩] false) c95_14))
def c95_12 : C := (.block 0 (.seq (.region [
      ⟨(some 66), (.pure (.bin .eql)), [.t 29, .c (.int .i64 (Int.negSucc 0))], none⟩,
      ⟨(some 65), (.pure .mov), [.t 66], none⟩] false) c95_13))
def c95_11 : C := (.seq (.region [
      ⟨(some 29), (.pure .mov), [.t 7], none⟩] false) c95_12)
def c95_6 : C := (.seq (.seq (.region [
      ⟨(some 24), (.pure .mov), [.t 0], none⟩,
      ⟨(some 25), (.pure .mov), [.t 5], none⟩,
      ⟨(some 26), (.call 86), [.t 24, .t 25], none⟩,
      ⟨(some 23), (.pure .mov), [.t 26], none⟩,
      ⟨(some 27), (.pure (.extract 0)), [.t 23], none⟩,
      ⟨(some 28), (.pure (.extract 1)), [.t 23], none⟩,
      ⟨(some 7), (.pure .mov), [.t 27], none⟩,
      ⟨(some 8), (.pure .mov), [.t 28], none⟩] false) c95_11) c95_10)
def c95_9 : C := .ret
def c95_8 : C := (.keep [4] c95_9)
def c95_7 : C := (.cond (.t 22) (.seq (.region [
      ⟨(some 4), (.pure .mov), [.c (.bool false)], none⟩] false) c95_8)
    .skip)
def c95_5 : C := (.seq (.seq (.region [
      ⟨(some 21), (.pure .mov), [.t 6], none⟩,
      ⟨(some 22), (.pure (.un .not)), [.t 21], none⟩] false) c95_7) c95_6)
def c95_1 : C := (.seq (.region [
      ⟨(some 13), (.pure .mov), [.t 0], none⟩,
      ⟨(some 14), (.pure .nilchk), [.t 13], none⟩,
      ⟨(some 15), (.pure (.fadd 1)), [.t 14], none⟩,
      ⟨(some 16), (.read (.load 1 false) []), [.t 15], none⟩,
      ⟨(some 17), (.pure .mov), [.t 1], none⟩,
      ⟨(some 18), (.read (.lookup (.one .i) (.int .i64 (Int.ofNat 0)) true) []), [.t 16, .t 17], none⟩,
      ⟨(some 12), (.pure .mov), [.t 18], none⟩,
      ⟨(some 19), (.pure (.extract 0)), [.t 12], none⟩,
      ⟨(some 20), (.pure (.extract 1)), [.t 12], none⟩,
      ⟨(some 5), (.pure .mov), [.t 19], none⟩,
      ⟨(some 6), (.pure .mov), [.t 20], none⟩] false) c95_5)
def c95_4 : C := .ret
def c95_3 : C := (.keep [4] c95_4)
def c95_2 : C := (.cond (.t 11) (.seq (.region [
      ⟨(some 4), (.pure .mov), [.c (.bool false)], none⟩] false) c95_3)
    .skip)
def c95_0 : C := (.seq (.seq (.region [
      ⟨(some 10), (.pure .mov), [.t 0], none⟩,
      ⟨(some 11), (.pure (.nilEq false .ptr)), [.t 10], none⟩] false) c95_2) c95_1)
def k95 : DFn := ⟨92, (.seq (.region [
      ⟨(some 4), (.pure .mov), [.c (.bool false)], none⟩] false) c95_0), [.tmp 4]⟩
theorem c95 : (match Tryz.prog.funcs[95]? with | some fn => compileFn Tryz.prog 4 [none, none, none, none, some [4], none, none, none, none, some [4], some [0, 1], none, none, none, none, none, none, none, none, none, some [4]] fn | none => none) = some k95 := by kernel_rfl


/-- (*tompion/wheel.Wheel).Set -/
def c96_17 : C := .ret
def c96_16 : C := (.keep [6] c96_17)
def c96_15 : C := (.seq (.region [
      ⟨(some 6), (.pure .mov), [.c (.int .i64 (Int.ofNat 0))], none⟩] false) c96_16)
def c96_14 : C := (.seq (.region [
      ⟨(some 55), (.pure .mov), [.t 0], none⟩,
      ⟨(some 56), (.pure .mov), [.t 1], none⟩,
      ⟨(some 57), (.call 88), [.t 55, .t 56], none⟩] false) c96_15)
def c96_13 : C := (.seq (.region [
      ⟨(some 49), (.pure .mov), [.t 0], none⟩,
      ⟨(some 50), (.pure .nilchk), [.t 49], none⟩,
      ⟨(some 51), (.pure (.fadd 1)), [.t 50], none⟩,
      ⟨(some 52), (.read (.load 1 false) []), [.t 51], none⟩,
      ⟨(some 53), (.pure .mov), [.t 1], none⟩,
      ⟨(some 54), (.pure .mov), [.t 2], none⟩,
      ⟨none, (.eff (.mupd (.one .i))), [.t 52, .t 53, .t 54], none⟩] false) c96_14)
def c96_8 : C := (.seq (.region [
      ⟨(some 46), (.pure .mov), [.t 0], none⟩,
      ⟨(some 47), (.pure .mov), [.t 1], none⟩,
      ⟨(some 48), (.call 95), [.t 46, .t 47], none⟩] false) c96_13)
def c96_12 : C := .ret
def c96_11 : C := (.keep [6] c96_12)
def c96_10 : C := (.cond (.t 45) (.seq (.region [
      ⟨(some 6), (.pure .mov), [.c (.int .i64 (Int.ofNat 5))], none⟩] false) c96_11)
    .skip)
def c96_9 : C := (.seq (.region [
      ⟨(some 36), (.pure .mov), [.t 8], none⟩,
      ⟨(some 37), (.pure (.un .not)), [.t 36], none⟩,
      ⟨(some 38), (.pure .mov), [.t 37], none⟩,
      ⟨(some 39), (.pure .mov), [.t 0], (some (38, true))⟩,
      ⟨(some 40), (.pure .nilchk), [.t 39], (some (38, true))⟩,
      ⟨(some 41), (.pure (.fadd 1)), [.t 40], (some (38, true))⟩,
      ⟨(some 42), (.read (.load 1 false) []), [.t 41], (some (38, true))⟩,
      ⟨(some 43), (.read .mlen []), [.t 42], (some (38, true))⟩,
      ⟨(some 44), (.pure (.bin .geq)), [.t 43, .c (.int .i64 (Int.ofNat 1000))], (some (38, true))⟩,
      ⟨(some 45), (.pure .pick), [.t 38, .t 44, .c (.bool false)], none⟩] false) c96_10)
def c96_1 : C := (.seq (.seq (.region [
      ⟨(some 28), (.pure .mov), [.t 0], none⟩,
      ⟨(some 29), (.pure .nilchk), [.t 28], none⟩,
      ⟨(some 30), (.pure (.fadd 1)), [.t 29], none⟩,
      ⟨(some 31), (.read (.load 1 false) []), [.t 30], none⟩,
      ⟨(some 32), (.pure .mov), [.t 1], none⟩,
      ⟨(some 33), (.read (.lookup (.one .i) (.int .i64 (Int.ofNat 0)) true) []), [.t 31, .t 32], none⟩,
      ⟨(some 27), (.pure .mov), [.t 33], none⟩,
      ⟨(some 34), (.pure (.extract 0)), [.t 27], none⟩,
      ⟨(some 35), (.pure (.extract 1)), [.t 27], none⟩,
      ⟨(some 7), (.pure .mov), [.t 34], none⟩,
      ⟨(some 8), (.pure .mov), [.t 35], none⟩] false) c96_9) c96_8)
def c96_4 : C := .ret
def c96_3 : C := (.keep [6] c96_4)
def c96_7 : C := .ret
def c96_6 : C := (.keep [6] c96_7)
def c96_5 : C := (.cond (.t 12) (.seq (.region [
      ⟨(some 6), (.pure .mov), [.c (.int .i64 (Int.ofNat 1))], none⟩] false) c96_6)
    .skip)
def c96_2 : C := (.cond (.t 9) (.seq (.region [
      ⟨(some 6), (.pure .mov), [.c (.int .i64 (Int.ofNat 12))], none⟩] false) c96_3)
    (.seq (.region [
      ⟨(some 13), (.pure .mov), [.t 1], none⟩,
      ⟨(some 14), (.pure (.bin .lss)), [.t 13, .c (.int .i64 (Int.ofNat 0))], none⟩,
      ⟨(some 15), (.pure .mov), [.t 14], none⟩,
      ⟨(some 16), (.pure .mov), [.t 1], (some (15, false))⟩,
      ⟨(some 17), (.pure (.bin .gtr)), [.t 16, .c (.int .i64 (Int.ofNat 1048576))], (some (15, false))⟩,
      ⟨(some 18), (.pure .pick), [.t 15, .c (.bool true), .t 17], none⟩,
      ⟨(some 19), (.pure .mov), [.t 18], none⟩,
      ⟨(some 20), (.pure .mov), [.t 2], (some (19, false))⟩,
      ⟨(some 21), (.pure (.bin .lss)), [.t 20, .c (.int .i64 (Int.ofNat 0))], (some (19, false))⟩,
      ⟨(some 22), (.pure .pick), [.t 19, .c (.bool true), .t 21], none⟩,
      ⟨(some 23), (.pure .mov), [.t 22], none⟩,
      ⟨(some 24), (.pure .mov), [.t 2], (some (23, false))⟩,
      ⟨(some 25), (.pure (.bin .gtr)), [.t 24, .c (.int .i64 (Int.ofNat 1099511627776))], (some (23, false))⟩,
      ⟨(some 26), (.pure .pick), [.t 23, .c (.bool true), .t 25], none⟩,
      ⟨(some 12), (.pure .mov), [.t 26], none⟩] false) c96_5))
def c96_0 : C := (.seq (.block 0 (.seq (.region [
      ⟨(some 10), (.pure .mov), [.t 0], none⟩,
      ⟨(some 11), (.pure (.nilEq false .ptr)), [.t 10], none⟩,
      ⟨(some 9), (.pure .mov), [.t 11], none⟩] false) c96_2)) c96_1)
def k96 : DFn := ⟨58, (.seq (.region [
      ⟨(some 6), (.pure .mov), [.c (.int .i64 (Int.ofNat 0))], none⟩] false) c96_0), [.tmp 6]⟩
theorem c96 : (match Tryz.prog.funcs[96]? with | some fn => compileFn Tryz.prog 4 [none, none, none, none, some [6], none, none, some [6], none, none, none, none, some [6], none, none, none, none, some [6]] fn | none => none) = some k96 := by kernel_rfl


/-- (*tompion/oplog.Log).Fire -/
def c97_3 : C := .ret
def c97_2 : C := (.keep [4, 5] c97_3)
def c97_1 : C := (.seq (.region [
      ⟨(some 14), (.pure (.fadd 13)), [.t 6], none⟩,
      ⟨(some 15), (.read (.load 6 true) []), [.t 14], none⟩,
      ⟨(some 16), (.pure (.fadd 13)), [.t 6], none⟩,
      ⟨(some 17), (.pure (.fadd 0)), [.t 16], none⟩,
      ⟨(some 18), (.read (.load 1 false) [7]), [.t 17], none⟩,
      ⟨(some 19), (.pure (.bin .gtr)), [.t 18, .c (.int .i64 (Int.ofNat 0))], none⟩,
      ⟨none, (.eff (.store 6)), [.t 4, .t 15], none⟩,
      ⟨(some 5), (.pure .mov), [.t 19], none⟩] true) c97_2)
def c97_0 : C := (.seq (.region [
      ⟨(some 9), (.pure .mov), [.t 0], none⟩,
      ⟨(some 10), (.pure .mov), [.t 1], none⟩,
      ⟨(some 11), (.call 100), [.t 9, .t 10], none⟩,
      ⟨(some 8), (.pure .mov), [.t 11], none⟩,
      ⟨(some 12), (.pure (.extract 0)), [.t 8], none⟩,
      ⟨(some 13), (.pure (.extract 1)), [.t 8], none⟩,
      ⟨(some 6), (.alloc (.alloc [(.int .i64 (Int.ofNat 0)), (.int .i64 (Int.ofNat 0)), (.int .i64 (Int.ofNat 0)), (.int .i64 (Int.ofNat 0)), (.int .i64 (Int.ofNat 0)), (.int .i64 (Int.ofNat 0)), (.int .i64 (Int.ofNat 0)), (.int .i64 (Int.ofNat 0)), (.int .i64 (Int.ofNat 0)), (.string ⟨⟨[]⟩⟩), (.int .i64 (Int.ofNat 0)), (.int .i64 (Int.ofNat 0)), (.int .i64 (Int.ofNat 0)), (.int .i64 (Int.ofNat 0)), (.int .i64 (Int.ofNat 0)), (.int .i64 (Int.ofNat 0)), (.int .i64 (Int.ofNat 0)), (.int .i64 (Int.ofNat 0)), (.int .i64 (Int.ofNat 0))])), [], none⟩,
      ⟨none, (.eff (.store 19)), [.t 6, .t 12], none⟩,
      ⟨(some 7), (.pure .mov), [.t 13], none⟩] false) c97_1)
def k97 : DFn := ⟨20, (.seq (.region [
      ⟨(some 4), (.alloc (.alloc [(.int .i64 (Int.ofNat 0)), (.int .i64 (Int.ofNat 0)), (.int .i64 (Int.ofNat 0)), (.int .i64 (Int.ofNat 0)), (.int .i64 (Int.ofNat 0)), (.int .i64 (Int.ofNat 0))])), [], none⟩,
      ⟨(some 5), (.pure .mov), [.c (.bool false)], none⟩] false) c97_0), [.cell 4 6 true, .tmp 5]⟩
theorem c97 : (match Tryz.prog.funcs[97]? with | some fn => compileFn Tryz.prog 4 [none, none, none, some [4, 5]] fn | none => none) = some k97 := by kernel_rfl


end Go.Proofs.YtdpbbppjjjhnoaaGreatDoor.D
