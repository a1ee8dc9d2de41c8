/- The compiled functions of the seat, as the machine "D" runs them, and what each comes to (written by a program). No statement of the seat is proved in this text. -/
import Derived.Test.YtdpbbppjjjhnoaaGreatDoorDz
import Derived.Test.YtdpbbppjjjhnoaaGreatDoorProg
set_option maxRecDepth 100000
set_option linter.unusedVariables false
namespace Go.Proofs.YtdpbbppjjjhnoaaGreatDoor.D
open Go
/-- (*tompion/oplog.Log).at -/
def c100_9 : C := .ret
def c100_8 : C := (.keep [4, 5] c100_9)
def c100_1 : C := (.seq (.region [
      ⟨(some 23), (.pure .mov), [.t 0], none⟩,
      ⟨(some 24), (.pure .nilchk), [.t 23], none⟩,
      ⟨(some 25), (.pure (.fadd 1)), [.t 24], none⟩,
      ⟨(some 26), (.read (.load 1 false) []), [.t 25], none⟩,
      ⟨(some 27), (.pure .mov), [.t 1], none⟩,
      ⟨(some 28), (.pure (.bin .sub)), [.t 27, .c (.int .i64 (Int.ofNat 1))], none⟩,
      ⟨(some 29), (.pure (.iaddS 19)), [.t 26, .t 28], none⟩,
      ⟨(some 30), (.read (.load 19 true) []), [.t 29], none⟩,
      ⟨none, (.eff (.store 19)), [.t 4, .t 30], none⟩,
      ⟨(some 5), (.pure .mov), [.c (.int .i64 (Int.ofNat 0))], none⟩] false) c100_8)
def c100_4 : C := .ret
def c100_3 : C := (.keep [4, 5] c100_4)
def c100_7 : C := .ret
def c100_6 : C := (.keep [4, 5] c100_7)
def c100_5 : C := (.cond (.t 10) (.seq (.region [
      ⟨(some 22), (.pure (.build [(.int .i64 (Int.ofNat 0)), (.int .i64 (Int.ofNat 0)), (.int .i64 (Int.ofNat 0)), (.int .i64 (Int.ofNat 0)), (.int .i64 (Int.ofNat 0)), (.int .i64 (Int.ofNat 0)), (.int .i64 (Int.ofNat 0)), (.int .i64 (Int.ofNat 0)), (.int .i64 (Int.ofNat 0)), (.string ⟨⟨[]⟩⟩), (.int .i64 (Int.ofNat 0)), (.int .i64 (Int.ofNat 0)), (.int .i64 (Int.ofNat 0)), (.int .i64 (Int.ofNat 0)), (.int .i64 (Int.ofNat 0)), (.int .i64 (Int.ofNat 0)), (.int .i64 (Int.ofNat 0)), (.int .i64 (Int.ofNat 0)), (.int .i64 (Int.ofNat 0))] [])), [], none⟩,
      ⟨none, (.eff (.store 19)), [.t 4, .t 22], none⟩,
      ⟨(some 5), (.pure .mov), [.c (.int .i64 (Int.ofNat 10))], none⟩] false) c100_6)
    .skip)
def c100_2 : C := (.cond (.t 6) (.seq (.region [
      ⟨(some 9), (.pure (.build [(.int .i64 (Int.ofNat 0)), (.int .i64 (Int.ofNat 0)), (.int .i64 (Int.ofNat 0)), (.int .i64 (Int.ofNat 0)), (.int .i64 (Int.ofNat 0)), (.int .i64 (Int.ofNat 0)), (.int .i64 (Int.ofNat 0)), (.int .i64 (Int.ofNat 0)), (.int .i64 (Int.ofNat 0)), (.string ⟨⟨[]⟩⟩), (.int .i64 (Int.ofNat 0)), (.int .i64 (Int.ofNat 0)), (.int .i64 (Int.ofNat 0)), (.int .i64 (Int.ofNat 0)), (.int .i64 (Int.ofNat 0)), (.int .i64 (Int.ofNat 0)), (.int .i64 (Int.ofNat 0)), (.int .i64 (Int.ofNat 0)), (.int .i64 (Int.ofNat 0))] [])), [], none⟩,
      ⟨none, (.eff (.store 19)), [.t 4, .t 9], none⟩,
      ⟨(some 5), (.pure .mov), [.c (.int .i64 (Int.ofNat 12))], none⟩] false) c100_3)
    (.seq (.region [
      ⟨(some 11), (.pure .mov), [.t 1], none⟩,
      ⟨(some 12), (.pure (.bin .lss)), [.t 11, .c (.int .i64 (Int.ofNat 1))], none⟩,
      ⟨(some 13), (.pure .mov), [.t 12], none⟩,
      ⟨(some 14), (.pure .mov), [.t 1], (some (13, false))⟩,
      ⟨(some 15), (.pure .mov), [.t 0], (some (13, false))⟩,
      ⟨(some 16), (.pure .nilchk), [.t 15], (some (13, false))⟩,
      ⟨(some 17), (.pure (.fadd 1)), [.t 16], (some (13, false))⟩,
      ⟨(some 18), (.read (.load 1 false) []), [.t 17], (some (13, false))⟩,
      ⟨(some 19), (.pure .lenS), [.t 18], (some (13, false))⟩,
      ⟨(some 20), (.pure (.bin .gtr)), [.t 14, .t 19], (some (13, false))⟩,
      ⟨(some 21), (.pure .pick), [.t 13, .c (.bool true), .t 20], none⟩,
      ⟨(some 10), (.pure .mov), [.t 21], none⟩] false) c100_5))
def c100_0 : C := (.seq (.block 0 (.seq (.region [
      ⟨(some 7), (.pure .mov), [.t 0], none⟩,
      ⟨(some 8), (.pure (.nilEq false .ptr)), [.t 7], none⟩,
      ⟨(some 6), (.pure .mov), [.t 8], none⟩] false) c100_2)) c100_1)
def k100 : DFn := ⟨31, (.seq (.region [
      ⟨(some 4), (.alloc (.alloc [(.int .i64 (Int.ofNat 0)), (.int .i64 (Int.ofNat 0)), (.int .i64 (Int.ofNat 0)), (.int .i64 (Int.ofNat 0)), (.int .i64 (Int.ofNat 0)), (.int .i64 (Int.ofNat 0)), (.int .i64 (Int.ofNat 0)), (.int .i64 (Int.ofNat 0)), (.int .i64 (Int.ofNat 0)), (.string ⟨⟨[]⟩⟩), (.int .i64 (Int.ofNat 0)), (.int .i64 (Int.ofNat 0)), (.int .i64 (Int.ofNat 0)), (.int .i64 (Int.ofNat 0)), (.int .i64 (Int.ofNat 0)), (.int .i64 (Int.ofNat 0)), (.int .i64 (Int.ofNat 0)), (.int .i64 (Int.ofNat 0)), (.int .i64 (Int.ofNat 0))])), [], none⟩,
      ⟨(some 5), (.pure .mov), [.c (.int .i64 (Int.ofNat 0))], none⟩] false) c100_0), [.cell 4 19 true, .tmp 5]⟩
theorem c100 : (match Tryz.prog.funcs[100]? with | some fn => compileFn Tryz.prog 4 [none, none, none, none, some [4, 5], none, none, some [4, 5], none, some [4, 5]] fn | none => none) = some k100 := by kernel_rfl


/-- math/bits.Len64 -/
def c101_14 : C := .ret
def c101_13 : C := (.keep [2] c101_14)
def c101_12 : C := (.seq (.region [
      ⟨(some 19), (.pure .mov), [.t 2], none⟩,
      ⟨(some 20), (.pure .mov), [.t 0], none⟩,
      ⟨(some 21), (.pure (.conv .u8)), [.t 20], none⟩,
      ⟨(some 22), (.pure .idxStr), [.c (.string ⟨⟨[0, 1, 2, 2, 3, 3, 3, 3, 4, 4, 4, 4, 4, 4, 4, 4, 5, 5, 5, 5, 5, 5, 5, 5, 5, 5, 5, 5, 5, 5, 5, 5, 6, 6, 6, 6, 6, 6, 6, 6, 6, 6, 6, 6, 6, 6, 6, 6, 6, 6, 6, 6, 6, 6, 6, 6, 6, 6, 6, 6, 6, 6, 6, 6, 7, 7, 7, 7, 7, 7, 7, 7, 7, 7, 7, 7, 7, 7, 7, 7, 7, 7, 7, 7, 7, 7, 7, 7, 7, 7, 7, 7, 7, 7, 7, 7, 7, 7, 7, 7, 7, 7, 7, 7, 7, 7, 7, 7, 7, 7, 7, 7, 7, 7, 7, 7, 7, 7, 7, 7, 7, 7, 7, 7, 7, 7, 7, 7, 8, 8, 8, 8, 8, 8, 8, 8, 8, 8, 8, 8, 8, 8, 8, 8, 8, 8, 8, 8, 8, 8, 8, 8, 8, 8, 8, 8, 8, 8, 8, 8, 8, 8, 8, 8, 8, 8, 8, 8, 8, 8, 8, 8, 8, 8, 8, 8, 8, 8, 8, 8, 8, 8, 8, 8, 8, 8, 8, 8, 8, 8, 8, 8, 8, 8, 8, 8, 8, 8, 8, 8, 8, 8, 8, 8, 8, 8, 8, 8, 8, 8, 8, 8, 8, 8, 8, 8, 8, 8, 8, 8, 8, 8, 8, 8, 8, 8, 8, 8, 8, 8, 8, 8, 8, 8, 8, 8, 8, 8, 8, 8, 8, 8, 8, 8, 8, 8, 8, 8, 8, 8, 8, 8, 8, 8, 8, 8]⟩⟩), .t 21], none⟩,
      ⟨(some 23), (.pure (.conv .i64)), [.t 22], none⟩,
      ⟨(some 24), (.pure (.bin .add)), [.t 19, .t 23], none⟩,
      ⟨(some 2), (.pure .mov), [.t 24], none⟩] false) c101_13)
def c101_9 : C := (.keep [0, 2] c101_12)
def c101_11 : C := (.region [
      ⟨(some 17), (.pure .mov), [.t 2], none⟩,
      ⟨(some 18), (.pure (.bin .add)), [.t 17, .c (.int .i64 (Int.ofNat 8))], none⟩,
      ⟨(some 2), (.pure .mov), [.t 18], none⟩] false)
def c101_10 : C := (.cond (.t 14) (.seq (.region [
      ⟨(some 15), (.pure .mov), [.t 0], none⟩,
      ⟨(some 16), (.pure (.bin .shr)), [.t 15, .c (.int .u64 (Int.ofNat 8))], none⟩,
      ⟨(some 0), (.pure .mov), [.t 16], none⟩] false) c101_11)
    .skip)
def c101_8 : C := (.seq (.seq (.region [
      ⟨(some 13), (.pure .mov), [.t 0], none⟩,
      ⟨(some 14), (.pure (.bin .geq)), [.t 13, .c (.int .u64 (Int.ofNat 256))], none⟩] false) c101_10) c101_9)
def c101_5 : C := (.keep [0, 2] c101_8)
def c101_7 : C := (.region [
      ⟨(some 11), (.pure .mov), [.t 2], none⟩,
      ⟨(some 12), (.pure (.bin .add)), [.t 11, .c (.int .i64 (Int.ofNat 16))], none⟩,
      ⟨(some 2), (.pure .mov), [.t 12], none⟩] false)
def c101_6 : C := (.cond (.t 8) (.seq (.region [
      ⟨(some 9), (.pure .mov), [.t 0], none⟩,
      ⟨(some 10), (.pure (.bin .shr)), [.t 9, .c (.int .u64 (Int.ofNat 16))], none⟩,
      ⟨(some 0), (.pure .mov), [.t 10], none⟩] false) c101_7)
    .skip)
def c101_4 : C := (.seq (.seq (.region [
      ⟨(some 7), (.pure .mov), [.t 0], none⟩,
      ⟨(some 8), (.pure (.bin .geq)), [.t 7, .c (.int .u64 (Int.ofNat 65536))], none⟩] false) c101_6) c101_5)
def c101_1 : C := (.keep [0, 2] c101_4)
def c101_3 : C := (.region [
      ⟨(some 2), (.pure .mov), [.c (.int .i64 (Int.ofNat 32))], none⟩] false)
def c101_2 : C := (.cond (.t 4) (.seq (.region [
      ⟨(some 5), (.pure .mov), [.t 0], none⟩,
      ⟨(some 6), (.pure (.bin .shr)), [.t 5, .c (.int .u64 (Int.ofNat 32))], none⟩,
      ⟨(some 0), (.pure .mov), [.t 6], none⟩] false) c101_3)
    .skip)
def c101_0 : C := (.seq (.seq (.region [
      ⟨(some 3), (.pure .mov), [.t 0], none⟩,
      ⟨(some 4), (.pure (.bin .geq)), [.t 3, .c (.int .u64 (Int.ofNat 4294967296))], none⟩] false) c101_2) c101_1)
def k101 : DFn := ⟨25, (.seq (.region [
      ⟨(some 2), (.pure .mov), [.c (.int .i64 (Int.ofNat 0))], none⟩] false) c101_0), [.tmp 2]⟩
theorem c101 : (match Tryz.prog.funcs[101]? with | some fn => compileFn Tryz.prog 4 [none, some [0, 2], none, none, some [0, 2], none, none, some [0, 2], none, none, none, some [2]] fn | none => none) = some k101 := by kernel_rfl


/-- math/bits.TrailingZeros64 -/
def c102_6 : C := .ret
def c102_5 : C := (.keep [2] c102_6)
def c102_1 : C := (.seq (.region [
      ⟨(some 5), (.pure .mov), [.t 0], none⟩,
      ⟨(some 6), (.pure .mov), [.t 0], none⟩,
      ⟨(some 7), (.pure (.un .neg)), [.t 6], none⟩,
      ⟨(some 8), (.pure (.bin .and)), [.t 5, .t 7], none⟩,
      ⟨(some 9), (.pure (.bin .mul)), [.t 8, .c (.int .u64 (Int.ofNat 285870213051353865))], none⟩,
      ⟨(some 10), (.pure (.bin .shr)), [.t 9, .c (.int .u64 (Int.ofNat 58))], none⟩,
      ⟨(some 11), (.pure (.iaddA 64 1)), [.c (.pointer (some ⟨0, 0, some 0⟩)), .t 10], none⟩,
      ⟨(some 12), (.read (.load 1 false) []), [.t 11], none⟩,
      ⟨(some 13), (.pure (.conv .i64)), [.t 12], none⟩,
      ⟨(some 2), (.pure .mov), [.t 13], none⟩] false) c102_5)
def c102_4 : C := .ret
def c102_3 : C := (.keep [2] c102_4)
def c102_2 : C := (.cond (.t 4) (.seq (.region [
      ⟨(some 2), (.pure .mov), [.c (.int .i64 (Int.ofNat 64))], none⟩] false) c102_3)
    .skip)
def c102_0 : C := (.seq (.seq (.region [
      ⟨(some 3), (.pure .mov), [.t 0], none⟩,
      ⟨(some 4), (.pure (.bin .eql)), [.t 3, .c (.int .u64 (Int.ofNat 0))], none⟩] false) c102_2) c102_1)
def k102 : DFn := ⟨14, (.seq (.region [
      ⟨(some 2), (.pure .mov), [.c (.int .i64 (Int.ofNat 0))], none⟩] false) c102_0), [.tmp 2]⟩
theorem c102 : (match Tryz.prog.funcs[102]? with | some fn => compileFn Tryz.prog 4 [none, none, none, none, some [2], none, some [2]] fn | none => none) = some k102 := by kernel_rfl


/-- slices.SortFunc[[][2]int,[2]int] -/
def c103_0 : C := (.region [
      ⟨(some 7), (.pure .mov), [.t 0], none⟩,
      ⟨(some 8), (.pure .mov), [.t 4], none⟩,
      ⟨(some 9), (.pure .mov), [.t 4], none⟩,
      ⟨(some 10), (.pure (.conv .u64)), [.t 9], none⟩,
      ⟨(some 11), (.call 113), [.t 10], none⟩,
      ⟨(some 12), (.pure .mov), [.t 1], none⟩,
      ⟨(some 13), (.call 112), [.t 7, .c (.int .i64 (Int.ofNat 0)), .t 8, .t 11, .t 12], none⟩] false)
def k103 : DFn := ⟨14, (.seq (.region [
      ⟨(some 5), (.pure .mov), [.t 0], none⟩,
      ⟨(some 6), (.pure .lenS), [.t 5], none⟩,
      ⟨(some 4), (.pure .mov), [.t 6], none⟩] false) c103_0), []⟩
theorem c103 : (match Tryz.prog.funcs[103]? with | some fn => compileFn Tryz.prog 4 [none] fn | none => none) = some k103 := by kernel_rfl


/-- slices.IndexFunc[[]tompion/state.known,tompion/state.known] -/
def c107_16 : C := .ret
def c107_15 : C := (.keep [4] c107_16)
def c107_14 : C := (.seq (.region [
      ⟨(some 4), (.pure .mov), [.c (.int .i64 (Int.negSucc 0))], none⟩] false) c107_15)
def c107_1 : C := (.keep [] c107_14)
def c107_13 : C := .skip
def c107_4 : C := (.keep [0, 1, 7, 8] c107_13)
def c107_8 : C := (.region [
      ⟨(some 18), (.pure (.bin .add)), [.t 8, .c (.int .i64 (Int.ofNat 1))], none⟩,
      ⟨(some 8), (.pure .mov), [.t 18], none⟩] false)
def c107_12 : C := .ret
def c107_11 : C := (.keep [4] c107_12)
def c107_10 : C := (.cond (.t 16) (.seq (.region [
      ⟨(some 17), (.pure .mov), [.t 5], none⟩,
      ⟨(some 4), (.pure .mov), [.t 17], none⟩] false) c107_11)
    .skip)
def c107_9 : C := (.seq (.region [
      ⟨(some 11), (.pure .mov), [.t 1], none⟩,
      ⟨(some 12), (.pure .mov), [.t 0], none⟩,
      ⟨(some 13), (.pure .mov), [.t 5], none⟩,
      ⟨(some 14), (.pure (.iaddS 5)), [.t 12, .t 13], none⟩,
      ⟨(some 15), (.read (.load 5 true) []), [.t 14], none⟩,
      ⟨(some 16), .callv, [.t 11, .t 15], none⟩] false) c107_10)
def c107_6 : C := (.seq (.block 1 (.seq (.region [
      ⟨(some 10), (.pure .mov), [.t 8], none⟩,
      ⟨(some 5), (.pure .mov), [.t 10], none⟩] false) c107_9)) c107_8)
def c107_7 : C := (.exit 0)
def c107_5 : C := (.seq (.cond (.t 9) .skip
    (.keep [] c107_7)) c107_6)
def c107_3 : C := (.seq (.seq (.region [
      ⟨(some 9), (.pure (.bin .lss)), [.t 8, .t 7], none⟩] false) c107_5) c107_4)
def c107_2 : C := (.block 0 (.loop (some [0, 1, 7, 8]) c107_3))
def c107_0 : C := (.seq (.seq (.region [
      ⟨(some 6), (.pure .mov), [.t 0], none⟩,
      ⟨(some 7), (.pure .lenS), [.t 6], none⟩,
      ⟨(some 8), (.pure .mov), [.c (.int .i64 (Int.ofNat 0))], none⟩] false) c107_2) c107_1)
def k107 : DFn := ⟨19, (.seq (.region [
      ⟨(some 4), (.pure .mov), [.c (.int .i64 (Int.ofNat 0))], none⟩] false) c107_0), [.tmp 4]⟩
theorem c107 : (match Tryz.prog.funcs[107]? with | some fn => compileFn Tryz.prog 4 [none, some [], none, some [0, 1, 7, 8], none, none, some [], none, none, none, none, some [4], none, some [4]] fn | none => none) = some k107 := by kernel_rfl


/-- (*tompion/state.State).Fires -/
def c110_7 : C := .ret
def c110_6 : C := (.keep [4] c110_7)
def c110_5 : C := (.seq (.region [
      ⟨(some 24), (.pure .mov), [.t 6], none⟩,
      ⟨(some 25), (.pure .mov), [.t 24], none⟩,
      ⟨(some 26), (.pure (.fadd 2)), [.t 5], (some (25, true))⟩,
      ⟨(some 27), (.read (.load 1 false) []), [.t 26], (some (25, true))⟩,
      ⟨(some 28), (.pure (.fadd 4)), [.t 3], (some (25, true))⟩,
      ⟨(some 29), (.read (.load 1 false) []), [.t 28], (some (25, true))⟩,
      ⟨(some 30), (.pure (.bin .eql)), [.t 27, .t 29], (some (25, true))⟩,
      ⟨(some 31), (.pure .pick), [.t 25, .t 30, .c (.bool false)], none⟩,
      ⟨(some 32), (.pure .mov), [.t 31], none⟩,
      ⟨(some 33), (.pure (.fadd 3)), [.t 5], (some (32, true))⟩,
      ⟨(some 34), (.read (.load 1 false) []), [.t 33], (some (32, true))⟩,
      ⟨(some 35), (.pure (.fadd 5)), [.t 3], (some (32, true))⟩,
      ⟨(some 36), (.read (.load 1 false) []), [.t 35], (some (32, true))⟩,
      ⟨(some 37), (.pure (.bin .eql)), [.t 34, .t 36], (some (32, true))⟩,
      ⟨(some 38), (.pure .pick), [.t 32, .t 37, .c (.bool false)], none⟩,
      ⟨(some 39), (.pure .mov), [.t 38], none⟩,
      ⟨(some 40), (.pure (.fadd 5)), [.t 3], (some (39, true))⟩,
      ⟨(some 41), (.read (.load 1 false) []), [.t 40], (some (39, true))⟩,
      ⟨(some 42), (.pure (.bin .gtr)), [.t 41, .c (.int .i64 (Int.ofNat 0))], (some (39, true))⟩,
      ⟨(some 43), (.pure .pick), [.t 39, .t 42, .c (.bool false)], none⟩,
      ⟨(some 44), (.pure .mov), [.t 43], none⟩,
      ⟨(some 45), (.pure (.fadd 7)), [.t 3], (some (44, true))⟩,
      ⟨(some 46), (.read (.load 1 false) []), [.t 45], (some (44, true))⟩,
      ⟨(some 47), (.pure (.fadd 5)), [.t 3], (some (44, true))⟩,
      ⟨(some 48), (.read (.load 1 false) []), [.t 47], (some (44, true))⟩,
      ⟨(some 49), (.pure (.bin .geq)), [.t 46, .t 48], (some (44, true))⟩,
      ⟨(some 50), (.pure .pick), [.t 44, .t 49, .c (.bool false)], none⟩,
      ⟨(some 4), (.pure .mov), [.t 50], none⟩] false) c110_6)
def c110_1 : C := (.seq (.region [
      ⟨(some 15), (.pure .mov), [.t 0], none⟩,
      ⟨(some 16), (.pure .nilchk), [.t 15], none⟩,
      ⟨(some 17), (.pure (.fadd 2)), [.t 16], none⟩,
      ⟨(some 18), (.read (.load 1 false) []), [.t 17], none⟩,
      ⟨(some 19), (.pure (.fadd 3)), [.t 3], none⟩,
      ⟨(some 20), (.read (.load 1 false) []), [.t 19], none⟩,
      ⟨(some 21), (.read (.lookup (.one .i) (.agg ⟨[(.int .i64 (Int.ofNat 0)), (.int .i64 (Int.ofNat 0)), (.int .i64 (Int.ofNat 0)), (.int .i64 (Int.ofNat 0)), (.string ⟨⟨[]⟩⟩)]⟩) true) []), [.t 18, .t 20], none⟩,
      ⟨(some 14), (.pure .mov), [.t 21], none⟩,
      ⟨(some 22), (.pure (.extract 0)), [.t 14], none⟩,
      ⟨(some 23), (.pure (.extract 1)), [.t 14], none⟩,
      ⟨(some 5), (.alloc (.alloc [(.int .i64 (Int.ofNat 0)), (.int .i64 (Int.ofNat 0)), (.int .i64 (Int.ofNat 0)), (.int .i64 (Int.ofNat 0)), (.string ⟨⟨[]⟩⟩)])), [], none⟩,
      ⟨none, (.eff (.store 5)), [.t 5, .t 22], none⟩,
      ⟨(some 6), (.pure .mov), [.t 23], none⟩] false) c110_5)
def c110_4 : C := .ret
def c110_3 : C := (.keep [4] c110_4)
def c110_2 : C := (.cond (.t 13) (.seq (.region [
      ⟨(some 4), (.pure .mov), [.c (.bool false)], none⟩] false) c110_3)
    .skip)
def c110_0 : C := (.seq (.seq (.region [
      ⟨(some 7), (.pure .mov), [.t 0], none⟩,
      ⟨(some 8), (.pure (.nilEq false .ptr)), [.t 7], none⟩,
      ⟨(some 9), (.pure .mov), [.t 8], none⟩,
      ⟨(some 10), (.pure (.fadd 0)), [.t 3], (some (9, false))⟩,
      ⟨(some 11), (.read (.load 1 false) []), [.t 10], (some (9, false))⟩,
      ⟨(some 12), (.pure (.bin .neq)), [.t 11, .c (.int .i64 (Int.ofNat 3))], (some (9, false))⟩,
      ⟨(some 13), (.pure .pick), [.t 9, .c (.bool true), .t 12], none⟩] false) c110_2) c110_1)
def k110 : DFn := ⟨51, (.seq (.region [
      ⟨(some 3), (.alloc .box), [.t 1], none⟩,
      ⟨(some 4), (.pure .mov), [.c (.bool false)], none⟩] false) c110_0), [.tmp 4]⟩
theorem c110 : (match Tryz.prog.funcs[110]? with | some fn => compileFn Tryz.prog 4 [none, none, none, none, some [4], none, none, some [4]] fn | none => none) = some k110 := by kernel_rfl


/-- tompion/wheel.without -/
def c111_2 : C := .ret
def c111_1 : C := (.keep [4] c111_2)
def c111_0 : C := (.seq (.region [
      ⟨(some 5), (.pure .mov), [.t 0], none⟩,
      ⟨(some 6), (.pure (.func (.func 117) 0)), [.t 3], none⟩,
      ⟨(some 7), (.call 116), [.t 5, .t 6], none⟩,
      ⟨(some 4), (.pure .mov), [.t 7], none⟩] false) c111_1)
def k111 : DFn := ⟨8, (.seq (.region [
      ⟨(some 3), (.alloc .box), [.t 1], none⟩,
      ⟨(some 4), (.pure .mov), [.c (.slice none 0 0)], none⟩] false) c111_0), [.tmp 4]⟩
theorem c111 : (match Tryz.prog.funcs[111]? with | some fn => compileFn Tryz.prog 4 [none, none, some [4]] fn | none => none) = some k111 := by kernel_rfl


/-- slices.pdqsortCmpFunc[[2]int] -/
def c112_42 : C := .skip
def c112_3 : C := (.keep [0, 1, 2, 3, 4, 10, 11] c112_42)
def c112_39 : C := (.region [
      ⟨(some 135), (.pure .mov), [.t 16], none⟩,
      ⟨(some 136), (.pure (.bin .add)), [.t 135, .c (.int .i64 (Int.ofNat 1))], none⟩,
      ⟨(some 1), (.pure .mov), [.t 136], none⟩] false)
def c112_38 : C := (.seq (.region [
      ⟨(some 129), (.pure .mov), [.t 0], none⟩,
      ⟨(some 130), (.pure .mov), [.t 1], none⟩,
      ⟨(some 131), (.pure .mov), [.t 16], none⟩,
      ⟨(some 132), (.pure .mov), [.t 3], none⟩,
      ⟨(some 133), (.pure .mov), [.t 4], none⟩,
      ⟨(some 134), (.call 112), [.t 129, .t 130, .t 131, .t 132, .t 133], none⟩] false) c112_39)
def c112_41 : C := (.region [
      ⟨(some 147), (.pure .mov), [.t 16], none⟩,
      ⟨(some 2), (.pure .mov), [.t 147], none⟩] false)
def c112_40 : C := (.seq (.region [
      ⟨(some 140), (.pure .mov), [.t 0], none⟩,
      ⟨(some 141), (.pure .mov), [.t 16], none⟩,
      ⟨(some 142), (.pure (.bin .add)), [.t 141, .c (.int .i64 (Int.ofNat 1))], none⟩,
      ⟨(some 143), (.pure .mov), [.t 2], none⟩,
      ⟨(some 144), (.pure .mov), [.t 3], none⟩,
      ⟨(some 145), (.pure .mov), [.t 4], none⟩,
      ⟨(some 146), (.call 112), [.t 140, .t 142, .t 143, .t 144, .t 145], none⟩] false) c112_41)
def c112_37 : C := (.cond (.t 125) (.seq (.region [
      ⟨(some 126), (.pure .mov), [.t 18], none⟩,
      ⟨(some 127), (.pure .mov), [.t 20], none⟩,
      ⟨(some 128), (.pure (.bin .geq)), [.t 126, .t 127], none⟩,
      ⟨(some 10), (.pure .mov), [.t 128], none⟩] false) c112_38)
    (.seq (.region [
      ⟨(some 137), (.pure .mov), [.t 19], none⟩,
      ⟨(some 138), (.pure .mov), [.t 20], none⟩,
      ⟨(some 139), (.pure (.bin .geq)), [.t 137, .t 138], none⟩,
      ⟨(some 10), (.pure .mov), [.t 139], none⟩] false) c112_40))
def c112_36 : C := (.seq (.region [
      ⟨(some 123), (.pure .mov), [.t 18], none⟩,
      ⟨(some 124), (.pure .mov), [.t 19], none⟩,
      ⟨(some 125), (.pure (.bin .lss)), [.t 123, .t 124], none⟩] false) c112_37)
def c112_35 : C := (.seq (.region [
      ⟨(some 121), (.pure .mov), [.t 12], none⟩,
      ⟨(some 122), (.pure (.bin .quo)), [.t 121, .c (.int .i64 (Int.ofNat 8))], none⟩,
      ⟨(some 20), (.pure .mov), [.t 122], none⟩] false) c112_36)
def c112_34 : C := (.seq (.region [
      ⟨(some 115), (.pure .mov), [.t 16], none⟩,
      ⟨(some 116), (.pure .mov), [.t 1], none⟩,
      ⟨(some 117), (.pure (.bin .sub)), [.t 115, .t 116], none⟩,
      ⟨(some 118), (.pure .mov), [.t 2], none⟩,
      ⟨(some 119), (.pure .mov), [.t 16], none⟩,
      ⟨(some 120), (.pure (.bin .sub)), [.t 118, .t 119], none⟩,
      ⟨(some 18), (.pure .mov), [.t 117], none⟩,
      ⟨(some 19), (.pure .mov), [.t 120], none⟩] false) c112_35)
def c112_33 : C := (.seq (.region [
      ⟨(some 114), (.pure .mov), [.t 17], none⟩,
      ⟨(some 11), (.pure .mov), [.t 114], none⟩] false) c112_34)
def c112_28 : C := (.seq (.region [
      ⟨(some 106), (.pure .mov), [.t 0], none⟩,
      ⟨(some 107), (.pure .mov), [.t 1], none⟩,
      ⟨(some 108), (.pure .mov), [.t 2], none⟩,
      ⟨(some 109), (.pure .mov), [.t 13], none⟩,
      ⟨(some 110), (.pure .mov), [.t 4], none⟩,
      ⟨(some 111), (.call 125), [.t 106, .t 107, .t 108, .t 109, .t 110], none⟩,
      ⟨(some 105), (.pure .mov), [.t 111], none⟩,
      ⟨(some 112), (.pure (.extract 0)), [.t 105], none⟩,
      ⟨(some 113), (.pure (.extract 1)), [.t 105], none⟩,
      ⟨(some 16), (.pure .mov), [.t 112], none⟩,
      ⟨(some 17), (.pure .mov), [.t 113], none⟩] false) c112_33)
def c112_32 : C := (.exit 1)
def c112_31 : C := (.keep [0, 1, 2, 3, 4, 10, 11] c112_32)
def c112_30 : C := (.seq (.region [
      ⟨(some 104), (.pure .mov), [.t 15], none⟩,
      ⟨(some 1), (.pure .mov), [.t 104], none⟩] false) c112_31)
def c112_29 : C := (.cond (.t 97) (.seq (.region [
      ⟨(some 98), (.pure .mov), [.t 0], none⟩,
      ⟨(some 99), (.pure .mov), [.t 1], none⟩,
      ⟨(some 100), (.pure .mov), [.t 2], none⟩,
      ⟨(some 101), (.pure .mov), [.t 13], none⟩,
      ⟨(some 102), (.pure .mov), [.t 4], none⟩,
      ⟨(some 103), (.call 124), [.t 98, .t 99, .t 100, .t 101, .t 102], none⟩,
      ⟨(some 15), (.pure .mov), [.t 103], none⟩] false) c112_30)
    .skip)
def c112_27 : C := (.seq (.seq (.region [
      ⟨(some 81), (.pure .mov), [.t 1], none⟩,
      ⟨(some 82), (.pure (.bin .gtr)), [.t 81, .c (.int .i64 (Int.ofNat 0))], none⟩,
      ⟨(some 83), (.pure .mov), [.t 82], none⟩,
      ⟨(some 84), (.pure .mov), [.t 4], (some (83, true))⟩,
      ⟨(some 85), (.pure .mov), [.t 0], (some (83, true))⟩,
      ⟨(some 86), (.pure .mov), [.t 1], (some (83, true))⟩,
      ⟨(some 87), (.pure (.bin .sub)), [.t 86, .c (.int .i64 (Int.ofNat 1))], (some (83, true))⟩,
      ⟨(some 88), (.pure (.iaddS 2)), [.t 85, .t 87], (some (83, true))⟩,
      ⟨(some 89), (.read (.load 2 true) []), [.t 88], (some (83, true))⟩,
      ⟨(some 90), (.pure .mov), [.t 0], (some (83, true))⟩,
      ⟨(some 91), (.pure .mov), [.t 13], (some (83, true))⟩,
      ⟨(some 92), (.pure (.iaddS 2)), [.t 90, .t 91], (some (83, true))⟩,
      ⟨(some 93), (.read (.load 2 true) []), [.t 92], (some (83, true))⟩,
      ⟨(some 94), .callv, [.t 84, .t 89, .t 93], (some (83, true))⟩,
      ⟨(some 95), (.pure (.bin .lss)), [.t 94, .c (.int .i64 (Int.ofNat 0))], (some (83, true))⟩,
      ⟨(some 96), (.pure (.un .not)), [.t 95], (some (83, true))⟩,
      ⟨(some 97), (.pure .pick), [.t 83, .t 96, .c (.bool false)], none⟩] false) c112_29) c112_28)
def c112_23 : C := (.keep [0, 1, 2, 3, 4, 10, 11, 12, 13] c112_27)
def c112_26 : C := .ret
def c112_25 : C := (.cond (.t 80) (.keep [] c112_26)
    .skip)
def c112_24 : C := (.cond (.t 75) (.seq (.region [
      ⟨(some 76), (.pure .mov), [.t 0], none⟩,
      ⟨(some 77), (.pure .mov), [.t 1], none⟩,
      ⟨(some 78), (.pure .mov), [.t 2], none⟩,
      ⟨(some 79), (.pure .mov), [.t 4], none⟩,
      ⟨(some 80), (.call 123), [.t 76, .t 77, .t 78, .t 79], none⟩] false) c112_25)
    .skip)
def c112_22 : C := (.seq (.seq (.region [
      ⟨(some 68), (.pure .mov), [.t 10], none⟩,
      ⟨(some 69), (.pure .mov), [.t 68], none⟩,
      ⟨(some 70), (.pure .mov), [.t 11], (some (69, true))⟩,
      ⟨(some 71), (.pure .pick), [.t 69, .t 70, .c (.bool false)], none⟩,
      ⟨(some 72), (.pure .mov), [.t 71], none⟩,
      ⟨(some 73), (.pure .mov), [.t 14], (some (72, true))⟩,
      ⟨(some 74), (.pure (.bin .eql)), [.t 73, .c (.int .i64 (Int.ofNat 1))], (some (72, true))⟩,
      ⟨(some 75), (.pure .pick), [.t 72, .t 74, .c (.bool false)], none⟩] false) c112_24) c112_23)
def c112_18 : C := (.keep [0, 1, 2, 3, 4, 10, 11, 12, 13, 14] c112_22)
def c112_21 : C := (.region [
      ⟨(some 14), (.pure .mov), [.c (.int .i64 (Int.ofNat 1))], none⟩] false)
def c112_20 : C := (.seq (.region [
      ⟨(some 62), (.pure .mov), [.t 2], none⟩,
      ⟨(some 63), (.pure (.bin .sub)), [.t 62, .c (.int .i64 (Int.ofNat 1))], none⟩,
      ⟨(some 64), (.pure .mov), [.t 13], none⟩,
      ⟨(some 65), (.pure .mov), [.t 1], none⟩,
      ⟨(some 66), (.pure (.bin .sub)), [.t 64, .t 65], none⟩,
      ⟨(some 67), (.pure (.bin .sub)), [.t 63, .t 66], none⟩,
      ⟨(some 13), (.pure .mov), [.t 67], none⟩] false) c112_21)
def c112_19 : C := (.cond (.t 56) (.seq (.region [
      ⟨(some 57), (.pure .mov), [.t 0], none⟩,
      ⟨(some 58), (.pure .mov), [.t 1], none⟩,
      ⟨(some 59), (.pure .mov), [.t 2], none⟩,
      ⟨(some 60), (.pure .mov), [.t 4], none⟩,
      ⟨(some 61), (.call 122), [.t 57, .t 58, .t 59, .t 60], none⟩] false) c112_20)
    .skip)
def c112_17 : C := (.seq (.seq (.region [
      ⟨(some 55), (.pure .mov), [.t 14], none⟩,
      ⟨(some 56), (.pure (.bin .eql)), [.t 55, .c (.int .i64 (Int.ofNat 2))], none⟩] false) c112_19) c112_18)
def c112_16 : C := (.seq (.region [
      ⟨(some 48), (.pure .mov), [.t 0], none⟩,
      ⟨(some 49), (.pure .mov), [.t 1], none⟩,
      ⟨(some 50), (.pure .mov), [.t 2], none⟩,
      ⟨(some 51), (.pure .mov), [.t 4], none⟩,
      ⟨(some 52), (.call 121), [.t 48, .t 49, .t 50, .t 51], none⟩,
      ⟨(some 47), (.pure .mov), [.t 52], none⟩,
      ⟨(some 53), (.pure (.extract 0)), [.t 47], none⟩,
      ⟨(some 54), (.pure (.extract 1)), [.t 47], none⟩,
      ⟨(some 13), (.pure .mov), [.t 53], none⟩,
      ⟨(some 14), (.pure .mov), [.t 54], none⟩] false) c112_17)
def c112_13 : C := (.keep [0, 1, 2, 3, 4, 10, 11, 12] c112_16)
def c112_15 : C := (.region [
      ⟨(some 45), (.pure .mov), [.t 3], none⟩,
      ⟨(some 46), (.pure (.bin .sub)), [.t 45, .c (.int .i64 (Int.ofNat 1))], none⟩,
      ⟨(some 3), (.pure .mov), [.t 46], none⟩] false)
def c112_14 : C := (.cond (.t 39) (.seq (.region [
      ⟨(some 40), (.pure .mov), [.t 0], none⟩,
      ⟨(some 41), (.pure .mov), [.t 1], none⟩,
      ⟨(some 42), (.pure .mov), [.t 2], none⟩,
      ⟨(some 43), (.pure .mov), [.t 4], none⟩,
      ⟨(some 44), (.call 120), [.t 40, .t 41, .t 42, .t 43], none⟩] false) c112_15)
    .skip)
def c112_9 : C := (.seq (.seq (.region [
      ⟨(some 38), (.pure .mov), [.t 10], none⟩,
      ⟨(some 39), (.pure (.un .not)), [.t 38], none⟩] false) c112_14) c112_13)
def c112_12 : C := .ret
def c112_11 : C := (.keep [] c112_12)
def c112_10 : C := (.cond (.t 32) (.seq (.region [
      ⟨(some 33), (.pure .mov), [.t 0], none⟩,
      ⟨(some 34), (.pure .mov), [.t 1], none⟩,
      ⟨(some 35), (.pure .mov), [.t 2], none⟩,
      ⟨(some 36), (.pure .mov), [.t 4], none⟩,
      ⟨(some 37), (.call 119), [.t 33, .t 34, .t 35, .t 36], none⟩] false) c112_11)
    .skip)
def c112_5 : C := (.seq (.seq (.region [
      ⟨(some 31), (.pure .mov), [.t 3], none⟩,
      ⟨(some 32), (.pure (.bin .eql)), [.t 31, .c (.int .i64 (Int.ofNat 0))], none⟩] false) c112_10) c112_9)
def c112_8 : C := .ret
def c112_7 : C := (.keep [] c112_8)
def c112_6 : C := (.cond (.t 25) (.seq (.region [
      ⟨(some 26), (.pure .mov), [.t 0], none⟩,
      ⟨(some 27), (.pure .mov), [.t 1], none⟩,
      ⟨(some 28), (.pure .mov), [.t 2], none⟩,
      ⟨(some 29), (.pure .mov), [.t 4], none⟩,
      ⟨(some 30), (.call 118), [.t 26, .t 27, .t 28, .t 29], none⟩] false) c112_7)
    .skip)
def c112_4 : C := (.seq (.seq (.region [
      ⟨(some 24), (.pure .mov), [.t 12], none⟩,
      ⟨(some 25), (.pure (.bin .leq)), [.t 24, .c (.int .i64 (Int.ofNat 12))], none⟩] false) c112_6) c112_5)
def c112_2 : C := (.seq (.block 1 (.seq (.region [
      ⟨(some 21), (.pure .mov), [.t 2], none⟩,
      ⟨(some 22), (.pure .mov), [.t 1], none⟩,
      ⟨(some 23), (.pure (.bin .sub)), [.t 21, .t 22], none⟩,
      ⟨(some 12), (.pure .mov), [.t 23], none⟩] false) c112_4)) c112_3)
def c112_1 : C := (.block 0 (.loop (some [0, 1, 2, 3, 4, 10, 11]) c112_2))
def c112_0 : C := (.seq (.region [
      ⟨(some 11), (.pure .mov), [.c (.bool true)], none⟩] false) c112_1)
def k112 : DFn := ⟨148, (.seq (.region [
      ⟨(some 10), (.pure .mov), [.c (.bool true)], none⟩] false) c112_0), []⟩
theorem c112 : (match Tryz.prog.funcs[112]? with | some fn => compileFn Tryz.prog 4 [none, none, some [0, 1, 2, 3, 4, 10, 11], none, none, none, none, some [], none, none, none, some [], some [0, 1, 2, 3, 4, 10, 11, 12], none, none, none, some [0, 1, 2, 3, 4, 10, 11, 12, 13, 14], none, none, none, some [0, 1, 2, 3, 4, 10, 11, 12, 13], none, none, some [], none, none, none, none, some [0, 1, 2, 3, 4, 10, 11], none, none, none, none, none, none, none, none, none] fn | none => none) = some k112 := by kernel_rfl


/-- math/bits.Len -/
def c113_5 : C := .ret
def c113_4 : C := (.keep [2] c113_5)
def c113_1 : C := (.seq (.region [
      ⟨(some 6), (.pure .mov), [.t 0], none⟩,
      ⟨(some 7), (.call 101), [.t 6], none⟩,
      ⟨(some 2), (.pure .mov), [.t 7], none⟩] false) c113_4)
def c113_3 : C := .ret
def c113_2 : C := (.keep [2] c113_3)
def c113_0 : C := (.seq (.cond (.c (.bool false)) (.seq (.region [
      ⟨(some 3), (.pure .mov), [.t 0], none⟩,
      ⟨(some 4), (.pure (.conv .u32)), [.t 3], none⟩,
      ⟨(some 5), (.call 126), [.t 4], none⟩,
      ⟨(some 2), (.pure .mov), [.t 5], none⟩] false) c113_2)
    .skip) c113_1)
def k113 : DFn := ⟨8, (.seq (.region [
      ⟨(some 2), (.pure .mov), [.c (.int .i64 (Int.ofNat 0))], none⟩] false) c113_0), [.tmp 2]⟩
theorem c113 : (match Tryz.prog.funcs[113]? with | some fn => compileFn Tryz.prog 4 [none, none, none, some [2], none, some [2]] fn | none => none) = some k113 := by kernel_rfl


/-- slices.DeleteFunc[[]int,int] -/
def c116_22 : C := .ret
def c116_21 : C := (.keep [4] c116_22)
def c116_20 : C := (.seq (.region [
      ⟨(some 39), (.pure .mov), [.t 0], none⟩,
      ⟨(some 40), (.pure .mov), [.t 5], none⟩,
      ⟨(some 41), (.pure (.slcS 1 false true false)), [.t 39, .t 40], none⟩,
      ⟨(some 4), (.pure .mov), [.t 41], none⟩] false) c116_21)
def c116_19 : C := (.seq (.region [
      ⟨(some 36), (.pure .mov), [.t 0], none⟩,
      ⟨(some 37), (.pure .mov), [.t 5], none⟩,
      ⟨(some 38), (.pure (.slcS 1 true false false)), [.t 36, .t 37], none⟩,
      ⟨none, (.eff (.clear 1 [(.int .i64 (Int.ofNat 0))])), [.t 38], none⟩] false) c116_20)
def c116_6 : C := (.keep [0, 5] c116_19)
def c116_18 : C := .skip
def c116_9 : C := (.keep [0, 1, 5, 6] c116_18)
def c116_17 : C := (.region [
      ⟨(some 20), (.pure .mov), [.t 6], none⟩,
      ⟨(some 21), (.pure (.bin .add)), [.t 20, .c (.int .i64 (Int.ofNat 1))], none⟩,
      ⟨(some 6), (.pure .mov), [.t 21], none⟩] false)
def c116_13 : C := (.keep [0, 1, 5, 6] c116_17)
def c116_16 : C := (.region [
      ⟨(some 34), (.pure .mov), [.t 5], none⟩,
      ⟨(some 35), (.pure (.bin .add)), [.t 34, .c (.int .i64 (Int.ofNat 1))], none⟩,
      ⟨(some 5), (.pure .mov), [.t 35], none⟩] false)
def c116_15 : C := (.cond (.t 29) (.seq (.region [
      ⟨(some 30), (.pure .mov), [.t 0], none⟩,
      ⟨(some 31), (.pure .mov), [.t 5], none⟩,
      ⟨(some 32), (.pure .mov), [.t 7], none⟩,
      ⟨(some 33), (.pure (.iaddS 1)), [.t 30, .t 31], none⟩,
      ⟨none, (.eff (.store 1)), [.t 33, .t 32], none⟩] false) c116_16)
    .skip)
def c116_14 : C := (.seq (.region [
      ⟨(some 26), (.pure .mov), [.t 1], none⟩,
      ⟨(some 27), (.pure .mov), [.t 7], none⟩,
      ⟨(some 28), .callv, [.t 26, .t 27], none⟩,
      ⟨(some 29), (.pure (.un .not)), [.t 28], none⟩] false) c116_15)
def c116_10 : C := (.seq (.block 1 (.seq (.region [
      ⟨(some 22), (.pure .mov), [.t 0], none⟩,
      ⟨(some 23), (.pure .mov), [.t 6], none⟩,
      ⟨(some 24), (.pure (.iaddS 1)), [.t 22, .t 23], none⟩,
      ⟨(some 25), (.read (.load 1 false) []), [.t 24], none⟩,
      ⟨(some 7), (.pure .mov), [.t 25], none⟩] false) c116_14)) c116_13)
def c116_12 : C := (.exit 0)
def c116_11 : C := (.cond (.t 19) .skip
    (.keep [0, 5] c116_12))
def c116_8 : C := (.seq (.seq (.seq (.region [
      ⟨(some 16), (.pure .mov), [.t 6], none⟩,
      ⟨(some 17), (.pure .mov), [.t 0], none⟩,
      ⟨(some 18), (.pure .lenS), [.t 17], none⟩,
      ⟨(some 19), (.pure (.bin .lss)), [.t 16, .t 18], none⟩] false) c116_11) c116_10) c116_9)
def c116_7 : C := (.block 0 (.loop (some [0, 1, 5, 6]) c116_8))
def c116_2 : C := (.seq (.seq (.region [
      ⟨(some 14), (.pure .mov), [.t 5], none⟩,
      ⟨(some 15), (.pure (.bin .add)), [.t 14, .c (.int .i64 (Int.ofNat 1))], none⟩,
      ⟨(some 6), (.pure .mov), [.t 15], none⟩] false) c116_7) c116_6)
def c116_5 : C := .ret
def c116_4 : C := (.keep [4] c116_5)
def c116_3 : C := (.cond (.t 12) (.seq (.region [
      ⟨(some 13), (.pure .mov), [.t 0], none⟩,
      ⟨(some 4), (.pure .mov), [.t 13], none⟩] false) c116_4)
    .skip)
def c116_1 : C := (.seq (.seq (.region [
      ⟨(some 11), (.pure .mov), [.t 5], none⟩,
      ⟨(some 12), (.pure (.bin .eql)), [.t 11, .c (.int .i64 (Int.negSucc 0))], none⟩] false) c116_3) c116_2)
def c116_0 : C := (.seq (.region [
      ⟨(some 8), (.pure .mov), [.t 0], none⟩,
      ⟨(some 9), (.pure .mov), [.t 1], none⟩,
      ⟨(some 10), (.call 130), [.t 8, .t 9], none⟩,
      ⟨(some 5), (.pure .mov), [.t 10], none⟩] false) c116_1)
def k116 : DFn := ⟨42, (.seq (.region [
      ⟨(some 4), (.pure .mov), [.c (.slice none 0 0)], none⟩] false) c116_0), [.tmp 4]⟩
theorem c116 : (match Tryz.prog.funcs[116]? with | some fn => compileFn Tryz.prog 4 [none, none, none, none, none, some [4], some [0, 5], none, some [0, 1, 5, 6], none, none, some [0, 5], some [0, 1, 5, 6], none, none, none, none, none, some [4]] fn | none => none) = some k116 := by kernel_rfl


/-- tompion/wheel.without$1 -/
def c117_2 : C := .ret
def c117_1 : C := (.keep [3] c117_2)
def c117_0 : C := (.seq (.region [
      ⟨(some 4), (.pure .mov), [.t 0], none⟩,
      ⟨(some 5), (.read (.load 1 false) []), [.t 1], none⟩,
      ⟨(some 6), (.pure (.bin .eql)), [.t 4, .t 5], none⟩,
      ⟨(some 3), (.pure .mov), [.t 6], none⟩] false) c117_1)
def k117 : DFn := ⟨7, (.seq (.region [
      ⟨(some 3), (.pure .mov), [.c (.bool false)], none⟩] false) c117_0), [.tmp 3]⟩
theorem c117 : (match Tryz.prog.funcs[117]? with | some fn => compileFn Tryz.prog 4 [none, none, some [3]] fn | none => none) = some k117 := by kernel_rfl


/-- slices.insertionSortCmpFunc[[2]int] -/
def c118_16 : C := .skip
def c118_2 : C := (.keep [0, 1, 2, 3, 8] c118_16)
def c118_15 : C := (.region [
      ⟨(some 15), (.pure .mov), [.t 8], none⟩,
      ⟨(some 16), (.pure (.bin .add)), [.t 15, .c (.int .i64 (Int.ofNat 1))], none⟩,
      ⟨(some 8), (.pure .mov), [.t 16], none⟩] false)
def c118_6 : C := (.keep [0, 1, 2, 3, 8] c118_15)
def c118_14 : C := .skip
def c118_9 : C := (.keep [0, 1, 2, 3, 8, 9] c118_14)
def c118_13 : C := (.region [
      ⟨(some 35), (.pure .mov), [.t 9], none⟩,
      ⟨(some 36), (.pure (.bin .sub)), [.t 35, .c (.int .i64 (Int.ofNat 1))], none⟩,
      ⟨(some 9), (.pure .mov), [.t 36], none⟩] false)
def c118_10 : C := (.seq (.block 3 (.region [
      ⟨(some 37), (.pure .mov), [.t 0], none⟩,
      ⟨(some 38), (.pure .mov), [.t 9], none⟩,
      ⟨(some 39), (.pure .mov), [.t 0], none⟩,
      ⟨(some 40), (.pure .mov), [.t 9], none⟩,
      ⟨(some 41), (.pure (.bin .sub)), [.t 40, .c (.int .i64 (Int.ofNat 1))], none⟩,
      ⟨(some 42), (.pure .mov), [.t 0], none⟩,
      ⟨(some 43), (.pure .mov), [.t 9], none⟩,
      ⟨(some 44), (.pure (.bin .sub)), [.t 43, .c (.int .i64 (Int.ofNat 1))], none⟩,
      ⟨(some 45), (.pure (.iaddS 2)), [.t 42, .t 44], none⟩,
      ⟨(some 46), (.read (.load 2 true) []), [.t 45], none⟩,
      ⟨(some 47), (.pure .mov), [.t 0], none⟩,
      ⟨(some 48), (.pure .mov), [.t 9], none⟩,
      ⟨(some 49), (.pure (.iaddS 2)), [.t 47, .t 48], none⟩,
      ⟨(some 50), (.read (.load 2 true) []), [.t 49], none⟩,
      ⟨(some 51), (.pure (.iaddS 2)), [.t 37, .t 38], none⟩,
      ⟨none, (.eff (.store 2)), [.t 51, .t 46], none⟩,
      ⟨(some 52), (.pure (.iaddS 2)), [.t 39, .t 41], none⟩,
      ⟨none, (.eff (.store 2)), [.t 52, .t 50], none⟩] false)) c118_13)
def c118_12 : C := (.exit 2)
def c118_11 : C := (.cond (.t 34) .skip
    (.keep [0, 1, 2, 3, 8] c118_12))
def c118_8 : C := (.seq (.seq (.seq (.region [
      ⟨(some 18), (.pure .mov), [.t 9], none⟩,
      ⟨(some 19), (.pure .mov), [.t 1], none⟩,
      ⟨(some 20), (.pure (.bin .gtr)), [.t 18, .t 19], none⟩,
      ⟨(some 21), (.pure .mov), [.t 20], none⟩,
      ⟨(some 22), (.pure .mov), [.t 3], (some (21, true))⟩,
      ⟨(some 23), (.pure .mov), [.t 0], (some (21, true))⟩,
      ⟨(some 24), (.pure .mov), [.t 9], (some (21, true))⟩,
      ⟨(some 25), (.pure (.iaddS 2)), [.t 23, .t 24], (some (21, true))⟩,
      ⟨(some 26), (.read (.load 2 true) []), [.t 25], (some (21, true))⟩,
      ⟨(some 27), (.pure .mov), [.t 0], (some (21, true))⟩,
      ⟨(some 28), (.pure .mov), [.t 9], (some (21, true))⟩,
      ⟨(some 29), (.pure (.bin .sub)), [.t 28, .c (.int .i64 (Int.ofNat 1))], (some (21, true))⟩,
      ⟨(some 30), (.pure (.iaddS 2)), [.t 27, .t 29], (some (21, true))⟩,
      ⟨(some 31), (.read (.load 2 true) []), [.t 30], (some (21, true))⟩,
      ⟨(some 32), .callv, [.t 22, .t 26, .t 31], (some (21, true))⟩,
      ⟨(some 33), (.pure (.bin .lss)), [.t 32, .c (.int .i64 (Int.ofNat 0))], (some (21, true))⟩,
      ⟨(some 34), (.pure .pick), [.t 21, .t 33, .c (.bool false)], none⟩] false) c118_11) c118_10) c118_9)
def c118_7 : C := (.block 2 (.loop (some [0, 1, 2, 3, 8, 9]) c118_8))
def c118_3 : C := (.seq (.block 1 (.seq (.region [
      ⟨(some 17), (.pure .mov), [.t 8], none⟩,
      ⟨(some 9), (.pure .mov), [.t 17], none⟩] false) c118_7)) c118_6)
def c118_5 : C := (.exit 0)
def c118_4 : C := (.cond (.t 14) .skip
    (.keep [] c118_5))
def c118_1 : C := (.seq (.seq (.seq (.region [
      ⟨(some 12), (.pure .mov), [.t 8], none⟩,
      ⟨(some 13), (.pure .mov), [.t 2], none⟩,
      ⟨(some 14), (.pure (.bin .lss)), [.t 12, .t 13], none⟩] false) c118_4) c118_3) c118_2)
def c118_0 : C := (.block 0 (.loop (some [0, 1, 2, 3, 8]) c118_1))
def k118 : DFn := ⟨53, (.seq (.region [
      ⟨(some 10), (.pure .mov), [.t 1], none⟩,
      ⟨(some 11), (.pure (.bin .add)), [.t 10, .c (.int .i64 (Int.ofNat 1))], none⟩,
      ⟨(some 8), (.pure .mov), [.t 11], none⟩] false) c118_0), []⟩
theorem c118 : (match Tryz.prog.funcs[118]? with | some fn => compileFn Tryz.prog 4 [none, some [0, 1, 2, 3, 8], none, none, some [], some [0, 1, 2, 3, 8], none, some [0, 1, 2, 3, 8, 9], none, none, some [0, 1, 2, 3, 8], none] fn | none => none) = some k118 := by kernel_rfl


end Go.Proofs.YtdpbbppjjjhnoaaGreatDoor.D
