/- The compiled functions of the seat, as the machine "D" runs them, and what each comes to (written by a program). No statement of the seat is proved in this text. -/
import Derived.Test.YtdpbbppjjjhnoaaGreatDoorDz
import Derived.Test.YtdpbbppjjjhnoaaGreatDoorProg
set_option maxRecDepth 100000
set_option linter.unusedVariables false
namespace Go.Proofs.YtdpbbppjjjhnoaaGreatDoor.D
open Go
/-- (*tompion/node.Node).Log -/
def c15_6 : C := .ret
def c15_5 : C := (.keep [2] c15_6)
def c15_1 : C := (.seq (.region [
      ⟨(some 5), (.pure .mov), [.t 0], none⟩,
      ⟨(some 6), (.pure .nilchk), [.t 5], none⟩,
      ⟨(some 7), (.pure (.fadd 9)), [.t 6], none⟩,
      ⟨(some 8), (.read (.load 1 false) []), [.t 7], none⟩,
      ⟨(some 9), (.call 40), [.t 8, .c (.int .i64 (Int.ofNat 1)), .c (.int .i64 (Int.ofNat 2000))], none⟩,
      ⟨(some 2), (.pure .mov), [.t 9], none⟩] false) c15_5)
def c15_4 : C := .ret
def c15_3 : C := (.keep [2] c15_4)
def c15_2 : C := (.cond (.t 4) (.seq (.region [
      ⟨(some 2), (.pure .mov), [.c (.slice none 0 0)], none⟩] false) c15_3)
    .skip)
def c15_0 : C := (.seq (.seq (.region [
      ⟨(some 3), (.pure .mov), [.t 0], none⟩,
      ⟨(some 4), (.pure (.nilEq false .ptr)), [.t 3], none⟩] false) c15_2) c15_1)
def k15 : DFn := ⟨10, (.seq (.region [
      ⟨(some 2), (.pure .mov), [.c (.slice none 0 0)], none⟩] false) c15_0), [.tmp 2]⟩
theorem c15 : (match Tryz.prog.funcs[15]? with | some fn => compileFn Tryz.prog 4 [none, none, none, none, some [2], none, some [2]] fn | none => none) = some k15 := by kernel_rfl


/-- (*tompion/node.Node).Until -/
def c16_6 : C := .ret
def c16_5 : C := (.keep [2] c16_6)
def c16_1 : C := (.seq (.region [
      ⟨(some 5), (.pure .mov), [.t 0], none⟩,
      ⟨(some 6), (.pure .nilchk), [.t 5], none⟩,
      ⟨(some 7), (.pure (.fadd 14)), [.t 6], none⟩,
      ⟨(some 8), (.read (.load 1 false) []), [.t 7], none⟩,
      ⟨(some 2), (.pure .mov), [.t 8], none⟩] false) c16_5)
def c16_4 : C := .ret
def c16_3 : C := (.keep [2] c16_4)
def c16_2 : C := (.cond (.t 4) (.seq (.region [
      ⟨(some 2), (.pure .mov), [.c (.int .i64 (Int.ofNat 0))], none⟩] false) c16_3)
    .skip)
def c16_0 : C := (.seq (.seq (.region [
      ⟨(some 3), (.pure .mov), [.t 0], none⟩,
      ⟨(some 4), (.pure (.nilEq false .ptr)), [.t 3], none⟩] false) c16_2) c16_1)
def k16 : DFn := ⟨9, (.seq (.region [
      ⟨(some 2), (.pure .mov), [.c (.int .i64 (Int.ofNat 0))], none⟩] false) c16_0), [.tmp 2]⟩
theorem c16 : (match Tryz.prog.funcs[16]? with | some fn => compileFn Tryz.prog 4 [none, none, none, none, some [2], none, some [2]] fn | none => none) = some k16 := by kernel_rfl


/-- tompion/node.may -/
def c17_4 : C := .ret
def c17_3 : C := (.keep [2] c17_4)
def c17_2 : C := (.seq (.region [
      ⟨(some 85), (.pure .mov), [.t 3], none⟩,
      ⟨(some 86), (.pure .mov), [.t 85], none⟩,
      ⟨(some 87), (.pure .mov), [.t 4], (some (86, true))⟩,
      ⟨(some 88), (.pure .pick), [.t 86, .t 87, .c (.bool false)], none⟩,
      ⟨(some 89), (.pure .mov), [.t 88], none⟩,
      ⟨(some 90), (.pure .mov), [.t 0], (some (89, true))⟩,
      ⟨(some 91), (.pure .nilchk), [.t 90], (some (89, true))⟩,
      ⟨(some 92), (.pure (.fadd 6)), [.t 91], (some (89, true))⟩,
      ⟨(some 93), (.read (.load 1 false) []), [.t 92], (some (89, true))⟩,
      ⟨(some 94), (.pure (.bin .geq)), [.t 93, .c (.int .i64 (Int.ofNat 0))], (some (89, true))⟩,
      ⟨(some 95), (.pure .pick), [.t 89, .t 94, .c (.bool false)], none⟩,
      ⟨(some 96), (.pure .mov), [.t 95], none⟩,
      ⟨(some 97), (.pure .mov), [.t 0], (some (96, true))⟩,
      ⟨(some 98), (.pure .nilchk), [.t 97], (some (96, true))⟩,
      ⟨(some 99), (.pure (.fadd 6)), [.t 98], (some (96, true))⟩,
      ⟨(some 100), (.read (.load 1 false) []), [.t 99], (some (96, true))⟩,
      ⟨(some 101), (.pure (.bin .leq)), [.t 100, .c (.int .i64 (Int.ofNat 1099511627776))], (some (96, true))⟩,
      ⟨(some 102), (.pure .pick), [.t 96, .t 101, .c (.bool false)], none⟩,
      ⟨(some 2), (.pure .mov), [.t 102], none⟩] false) c17_3)
def c17_1 : C := (.seq (.region [
      ⟨(some 45), (.pure .mov), [.t 0], none⟩,
      ⟨(some 46), (.pure .nilchk), [.t 45], none⟩,
      ⟨(some 47), (.pure (.fadd 3)), [.t 46], none⟩,
      ⟨(some 48), (.read (.load 1 false) []), [.t 47], none⟩,
      ⟨(some 49), (.pure (.bin .geq)), [.t 48, .c (.int .i64 (Int.ofNat 1))], none⟩,
      ⟨(some 50), (.pure .mov), [.t 49], none⟩,
      ⟨(some 51), (.pure .mov), [.t 0], (some (50, true))⟩,
      ⟨(some 52), (.pure .nilchk), [.t 51], (some (50, true))⟩,
      ⟨(some 53), (.pure (.fadd 3)), [.t 52], (some (50, true))⟩,
      ⟨(some 54), (.read (.load 1 false) []), [.t 53], (some (50, true))⟩,
      ⟨(some 55), (.pure (.bin .leq)), [.t 54, .c (.int .i64 (Int.ofNat 1000))], (some (50, true))⟩,
      ⟨(some 56), (.pure .pick), [.t 50, .t 55, .c (.bool false)], none⟩,
      ⟨(some 57), (.pure .mov), [.t 56], none⟩,
      ⟨(some 58), (.pure .mov), [.t 0], (some (57, true))⟩,
      ⟨(some 59), (.pure .nilchk), [.t 58], (some (57, true))⟩,
      ⟨(some 60), (.pure (.fadd 4)), [.t 59], (some (57, true))⟩,
      ⟨(some 61), (.read (.load 1 false) []), [.t 60], (some (57, true))⟩,
      ⟨(some 62), (.pure (.bin .geq)), [.t 61, .c (.int .i64 (Int.ofNat 1))], (some (57, true))⟩,
      ⟨(some 63), (.pure .pick), [.t 57, .t 62, .c (.bool false)], none⟩,
      ⟨(some 64), (.pure .mov), [.t 63], none⟩,
      ⟨(some 65), (.pure .mov), [.t 0], (some (64, true))⟩,
      ⟨(some 66), (.pure .nilchk), [.t 65], (some (64, true))⟩,
      ⟨(some 67), (.pure (.fadd 4)), [.t 66], (some (64, true))⟩,
      ⟨(some 68), (.read (.load 1 false) []), [.t 67], (some (64, true))⟩,
      ⟨(some 69), (.pure (.bin .leq)), [.t 68, .c (.int .i64 (Int.ofNat 1000))], (some (64, true))⟩,
      ⟨(some 70), (.pure .pick), [.t 64, .t 69, .c (.bool false)], none⟩,
      ⟨(some 71), (.pure .mov), [.t 70], none⟩,
      ⟨(some 72), (.pure .mov), [.t 0], (some (71, true))⟩,
      ⟨(some 73), (.pure .nilchk), [.t 72], (some (71, true))⟩,
      ⟨(some 74), (.pure (.fadd 5)), [.t 73], (some (71, true))⟩,
      ⟨(some 75), (.read (.load 1 false) []), [.t 74], (some (71, true))⟩,
      ⟨(some 76), (.pure (.bin .geq)), [.t 75, .c (.int .i64 (Int.ofNat 0))], (some (71, true))⟩,
      ⟨(some 77), (.pure .pick), [.t 71, .t 76, .c (.bool false)], none⟩,
      ⟨(some 78), (.pure .mov), [.t 77], none⟩,
      ⟨(some 79), (.pure .mov), [.t 0], (some (78, true))⟩,
      ⟨(some 80), (.pure .nilchk), [.t 79], (some (78, true))⟩,
      ⟨(some 81), (.pure (.fadd 5)), [.t 80], (some (78, true))⟩,
      ⟨(some 82), (.read (.load 1 false) []), [.t 81], (some (78, true))⟩,
      ⟨(some 83), (.pure (.bin .leq)), [.t 82, .c (.int .i64 (Int.ofNat 100))], (some (78, true))⟩,
      ⟨(some 84), (.pure .pick), [.t 78, .t 83, .c (.bool false)], none⟩,
      ⟨(some 4), (.pure .mov), [.t 84], none⟩] false) c17_2)
def c17_0 : C := (.seq (.region [
      ⟨(some 5), (.pure .mov), [.t 0], none⟩,
      ⟨(some 6), (.pure .nilchk), [.t 5], none⟩,
      ⟨(some 7), (.pure (.fadd 0)), [.t 6], none⟩,
      ⟨(some 8), (.read (.load 1 false) []), [.t 7], none⟩,
      ⟨(some 9), (.pure (.bin .geq)), [.t 8, .c (.int .i64 (Int.ofNat 1))], none⟩,
      ⟨(some 10), (.pure .mov), [.t 9], none⟩,
      ⟨(some 11), (.pure .mov), [.t 0], (some (10, true))⟩,
      ⟨(some 12), (.pure .nilchk), [.t 11], (some (10, true))⟩,
      ⟨(some 13), (.pure (.fadd 0)), [.t 12], (some (10, true))⟩,
      ⟨(some 14), (.read (.load 1 false) []), [.t 13], (some (10, true))⟩,
      ⟨(some 15), (.pure (.bin .leq)), [.t 14, .c (.int .i64 (Int.ofNat 8))], (some (10, true))⟩,
      ⟨(some 16), (.pure .pick), [.t 10, .t 15, .c (.bool false)], none⟩,
      ⟨(some 17), (.pure .mov), [.t 16], none⟩,
      ⟨(some 18), (.pure .mov), [.t 0], (some (17, true))⟩,
      ⟨(some 19), (.pure .nilchk), [.t 18], (some (17, true))⟩,
      ⟨(some 20), (.pure (.fadd 1)), [.t 19], (some (17, true))⟩,
      ⟨(some 21), (.read (.load 1 false) []), [.t 20], (some (17, true))⟩,
      ⟨(some 22), (.pure (.bin .geq)), [.t 21, .c (.int .i64 (Int.ofNat 0))], (some (17, true))⟩,
      ⟨(some 23), (.pure .pick), [.t 17, .t 22, .c (.bool false)], none⟩,
      ⟨(some 24), (.pure .mov), [.t 23], none⟩,
      ⟨(some 25), (.pure .mov), [.t 0], (some (24, true))⟩,
      ⟨(some 26), (.pure .nilchk), [.t 25], (some (24, true))⟩,
      ⟨(some 27), (.pure (.fadd 1)), [.t 26], (some (24, true))⟩,
      ⟨(some 28), (.read (.load 1 false) []), [.t 27], (some (24, true))⟩,
      ⟨(some 29), (.pure (.bin .leq)), [.t 28, .c (.int .i64 (Int.ofNat 4))], (some (24, true))⟩,
      ⟨(some 30), (.pure .pick), [.t 24, .t 29, .c (.bool false)], none⟩,
      ⟨(some 31), (.pure .mov), [.t 30], none⟩,
      ⟨(some 32), (.pure .mov), [.t 0], (some (31, true))⟩,
      ⟨(some 33), (.pure .nilchk), [.t 32], (some (31, true))⟩,
      ⟨(some 34), (.pure (.fadd 2)), [.t 33], (some (31, true))⟩,
      ⟨(some 35), (.read (.load 1 false) []), [.t 34], (some (31, true))⟩,
      ⟨(some 36), (.pure (.bin .geq)), [.t 35, .c (.int .i64 (Int.ofNat 1))], (some (31, true))⟩,
      ⟨(some 37), (.pure .pick), [.t 31, .t 36, .c (.bool false)], none⟩,
      ⟨(some 38), (.pure .mov), [.t 37], none⟩,
      ⟨(some 39), (.pure .mov), [.t 0], (some (38, true))⟩,
      ⟨(some 40), (.pure .nilchk), [.t 39], (some (38, true))⟩,
      ⟨(some 41), (.pure (.fadd 2)), [.t 40], (some (38, true))⟩,
      ⟨(some 42), (.read (.load 1 false) []), [.t 41], (some (38, true))⟩,
      ⟨(some 43), (.pure (.bin .leq)), [.t 42, .c (.int .i64 (Int.ofNat 16))], (some (38, true))⟩,
      ⟨(some 44), (.pure .pick), [.t 38, .t 43, .c (.bool false)], none⟩,
      ⟨(some 3), (.pure .mov), [.t 44], none⟩] false) c17_1)
def k17 : DFn := ⟨103, (.seq (.region [
      ⟨(some 2), (.pure .mov), [.c (.bool false)], none⟩] false) c17_0), [.tmp 2]⟩
theorem c17 : (match Tryz.prog.funcs[17]? with | some fn => compileFn Tryz.prog 4 [none, none, none, none, some [2]] fn | none => none) = some k17 := by kernel_rfl


/-- tompion/oplog.New -/
def c18_2 : C := .ret
def c18_1 : C := (.keep [2] c18_2)
def c18_0 : C := (.seq (.region [
      ⟨(some 3), (.pure .mov), [.t 0], none⟩,
      ⟨(some 4), (.call 41), [.t 3], none⟩,
      ⟨(some 5), (.alloc .mkmap), [], none⟩,
      ⟨(some 6), (.alloc .mkmap), [], none⟩,
      ⟨(some 7), (.call 42), [.c (.int .i64 (Int.ofNat 0))], none⟩,
      ⟨(some 8), (.pure (.build [(.pointer none), (.slice none 0 0), (.map none), (.map none), (.pointer none)] [(0, 1), (2, 1), (3, 1), (4, 1)])), [.t 4, .t 5, .t 6, .t 7], none⟩,
      ⟨(some 9), (.alloc .box), [.t 8], none⟩,
      ⟨(some 2), (.pure .mov), [.t 9], none⟩] false) c18_1)
def k18 : DFn := ⟨10, (.seq (.region [
      ⟨(some 2), (.pure .mov), [.c (.pointer none)], none⟩] false) c18_0), [.tmp 2]⟩
theorem c18 : (match Tryz.prog.funcs[18]? with | some fn => compileFn Tryz.prog 4 [none, none, some [2]] fn | none => none) = some k18 := by kernel_rfl


/-- tompion/tompionref11.First -/
def c19_13 : C := .ret
def c19_12 : C := (.keep [2] c19_13)
def c19_11 : C := (.seq (.region [
      ⟨(some 19), (.read (.load 2 true) []), [.t 3], none⟩,
      ⟨none, (.eff (.store 2)), [.t 2, .t 19], none⟩] false) c19_12)
def c19_2 : C := (.keep [2, 3] c19_11)
def c19_10 : C := .skip
def c19_5 : C := (.keep [0, 2, 3, 4] c19_10)
def c19_9 : C := (.region [
      ⟨(some 9), (.pure .mov), [.t 4], none⟩,
      ⟨(some 10), (.pure (.bin .add)), [.t 9, .c (.int .i64 (Int.ofNat 1))], none⟩,
      ⟨(some 4), (.pure .mov), [.t 10], none⟩] false)
def c19_6 : C := (.seq (.block 1 (.region [
      ⟨(some 11), (.pure (.fadd 1)), [.t 3], none⟩,
      ⟨(some 12), (.read (.load 1 false) []), [.t 11], none⟩,
      ⟨(some 13), (.pure .mov), [.t 4], none⟩,
      ⟨(some 14), (.pure (.build [(.int .i64 (Int.ofNat 0)), (.int .i64 (Int.ofNat 0))] [(0, 1), (1, 1)])), [.t 13, .c (.int .i64 (Int.ofNat 1))], none⟩,
      ⟨(some 15), (.pure (.build [(.int .i64 (Int.ofNat 0)), (.int .i64 (Int.ofNat 0)), (.bool false)] [(0, 2), (2, 1)])), [.t 14, .c (.bool true)], none⟩,
      ⟨(some 16), (.alloc (.bslice [(.int .i64 (Int.ofNat 0)), (.int .i64 (Int.ofNat 0)), (.bool false)] [(0, 3)] 3 1)), [.t 15], none⟩,
      ⟨(some 17), (.eff (.app 3 24)), [.t 12, .t 16], none⟩,
      ⟨(some 18), (.pure (.fadd 1)), [.t 3], none⟩,
      ⟨none, (.eff (.store 1)), [.t 18, .t 17], none⟩] false)) c19_9)
def c19_8 : C := (.exit 0)
def c19_7 : C := (.cond (.t 8) .skip
    (.keep [2, 3] c19_8))
def c19_4 : C := (.seq (.seq (.seq (.region [
      ⟨(some 6), (.pure .mov), [.t 4], none⟩,
      ⟨(some 7), (.pure .mov), [.t 0], none⟩,
      ⟨(some 8), (.pure (.bin .lss)), [.t 6, .t 7], none⟩] false) c19_7) c19_6) c19_5)
def c19_3 : C := (.block 0 (.loop (some [0, 2, 3, 4]) c19_4))
def c19_1 : C := (.seq (.seq (.region [
      ⟨(some 4), (.pure .mov), [.c (.int .i64 (Int.ofNat 0))], none⟩] false) c19_3) c19_2)
def c19_0 : C := (.seq (.region [
      ⟨(some 5), (.pure (.build [(.int .i64 (Int.ofNat 0)), (.slice none 0 0)] [(0, 1)])), [.c (.int .i64 (Int.ofNat 1))], none⟩,
      ⟨(some 3), (.alloc (.alloc [(.int .i64 (Int.ofNat 0)), (.slice none 0 0)])), [], none⟩,
      ⟨none, (.eff (.store 2)), [.t 3, .t 5], none⟩] false) c19_1)
def k19 : DFn := ⟨20, (.seq (.region [
      ⟨(some 2), (.alloc (.alloc [(.int .i64 (Int.ofNat 0)), (.slice none 0 0)])), [], none⟩] false) c19_0), [.cell 2 2 true]⟩
theorem c19 : (match Tryz.prog.funcs[19]? with | some fn => compileFn Tryz.prog 4 [none, none, some [2, 3], none, some [0, 2, 3, 4], none, none, some [2, 3], none, none, some [2]] fn | none => none) = some k19 := by kernel_rfl


/-- tompion/tompionlaw16.ask -/
def c20_2 : C := .ret
def c20_1 : C := (.keep [2] c20_2)
def c20_0 : C := (.seq (.region [
      ⟨(some 3), (.pure (.fadd 1)), [.t 1], none⟩,
      ⟨(some 4), (.read (.load 1 false) []), [.t 3], none⟩,
      ⟨(some 5), (.pure (.build [(.int .i64 (Int.ofNat 0)), (.int .i64 (Int.ofNat 0))] [(0, 1)])), [.t 4], none⟩,
      ⟨(some 6), (.read (.load 10 true) []), [.t 1], none⟩,
      ⟨(some 7), (.pure (.build [(.int .i64 (Int.ofNat 0)), (.int .i64 (Int.ofNat 0)), (.int .i64 (Int.ofNat 0)), (.int .i64 (Int.ofNat 0)), (.int .i64 (Int.ofNat 0)), (.int .i64 (Int.ofNat 0)), (.int .i64 (Int.ofNat 0)), (.int .i64 (Int.ofNat 0)), (.int .i64 (Int.ofNat 0)), (.int .i64 (Int.ofNat 0)), (.bool false), (.int .i64 (Int.ofNat 0)), (.int .i64 (Int.ofNat 0)), (.int .i64 (Int.ofNat 0)), (.int .i64 (Int.ofNat 0)), (.int .i64 (Int.ofNat 0)), (.int .i64 (Int.ofNat 0)), (.int .i64 (Int.ofNat 0)), (.int .i64 (Int.ofNat 0)), (.int .i64 (Int.ofNat 0)), (.string ⟨⟨[]⟩⟩), (.int .i64 (Int.ofNat 0)), (.int .i64 (Int.ofNat 0)), (.int .i64 (Int.ofNat 0)), (.int .i64 (Int.ofNat 0)), (.slice none 0 0), (.slice none 0 0), (.int .i64 (Int.ofNat 0))] [(0, 1), (2, 2), (11, 10)])), [.c (.int .i64 (Int.ofNat 7)), .t 5, .t 6], none⟩,
      ⟨none, (.eff (.store 28)), [.t 2, .t 7], none⟩] false) c20_1)
def k20 : DFn := ⟨8, (.seq (.region [
      ⟨(some 1), (.alloc .box), [.t 0], none⟩,
      ⟨(some 2), (.alloc (.alloc [(.int .i64 (Int.ofNat 0)), (.int .i64 (Int.ofNat 0)), (.int .i64 (Int.ofNat 0)), (.int .i64 (Int.ofNat 0)), (.int .i64 (Int.ofNat 0)), (.int .i64 (Int.ofNat 0)), (.int .i64 (Int.ofNat 0)), (.int .i64 (Int.ofNat 0)), (.int .i64 (Int.ofNat 0)), (.int .i64 (Int.ofNat 0)), (.bool false), (.int .i64 (Int.ofNat 0)), (.int .i64 (Int.ofNat 0)), (.int .i64 (Int.ofNat 0)), (.int .i64 (Int.ofNat 0)), (.int .i64 (Int.ofNat 0)), (.int .i64 (Int.ofNat 0)), (.int .i64 (Int.ofNat 0)), (.int .i64 (Int.ofNat 0)), (.int .i64 (Int.ofNat 0)), (.string ⟨⟨[]⟩⟩), (.int .i64 (Int.ofNat 0)), (.int .i64 (Int.ofNat 0)), (.int .i64 (Int.ofNat 0)), (.int .i64 (Int.ofNat 0)), (.slice none 0 0), (.slice none 0 0), (.int .i64 (Int.ofNat 0))])), [], none⟩] false) c20_0), [.cell 2 28 true]⟩
theorem c20 : (match Tryz.prog.funcs[20]? with | some fn => compileFn Tryz.prog 4 [none, none, some [2]] fn | none => none) = some k20 := by kernel_rfl


/-- tompion/config.Right -/
def c21_23 : C := .ret
def c21_22 : C := (.keep [2] c21_23)
def c21_21 : C := (.seq (.region [
      ⟨(some 2), (.pure .mov), [.c (.bool true)], none⟩] false) c21_22)
def c21_7 : C := (.keep [] c21_21)
def c21_20 : C := .skip
def c21_10 : C := (.keep [4, 35, 36, 37] c21_20)
def c21_14 : C := (.region [
      ⟨(some 56), (.pure (.bin .add)), [.t 37, .c (.int .i64 (Int.ofNat 1))], none⟩,
      ⟨(some 37), (.pure .mov), [.t 56], none⟩] false)
def c21_16 : C := (.region [
      ⟨(some 52), (.pure (.fadd 0)), [.t 6], none⟩,
      ⟨(some 53), (.pure (.fadd 0)), [.t 52], none⟩,
      ⟨(some 54), (.read (.load 1 false) []), [.t 53], none⟩,
      ⟨(some 55), (.pure (.iaddA 8 1)), [.t 4, .t 54], none⟩,
      ⟨none, (.eff (.store 1)), [.t 55, .c (.bool true)], none⟩] false)
def c21_19 : C := .ret
def c21_18 : C := (.keep [2] c21_19)
def c21_17 : C := (.cond (.t 51) (.seq (.region [
      ⟨(some 2), (.pure .mov), [.c (.bool false)], none⟩] false) c21_18)
    .skip)
def c21_15 : C := (.seq (.seq (.region [
      ⟨(some 41), (.pure (.fadd 0)), [.t 6], none⟩,
      ⟨(some 42), (.read (.load 2 true) []), [.t 41], none⟩,
      ⟨(some 43), (.call 43), [.t 42], none⟩,
      ⟨(some 44), (.pure (.un .not)), [.t 43], none⟩,
      ⟨(some 45), (.pure .mov), [.t 44], none⟩,
      ⟨(some 46), (.pure (.fadd 0)), [.t 6], (some (45, false))⟩,
      ⟨(some 47), (.pure (.fadd 0)), [.t 46], (some (45, false))⟩,
      ⟨(some 48), (.read (.load 1 false) []), [.t 47], (some (45, false))⟩,
      ⟨(some 49), (.pure (.iaddA 8 1)), [.t 4, .t 48], (some (45, false))⟩,
      ⟨(some 50), (.read (.load 1 false) []), [.t 49], (some (45, false))⟩,
      ⟨(some 51), (.pure .pick), [.t 45, .c (.bool true), .t 50], none⟩] false) c21_17) c21_16)
def c21_12 : C := (.seq (.block 1 (.seq (.region [
      ⟨(some 39), (.pure (.iaddS 3)), [.t 35, .t 37], none⟩,
      ⟨(some 40), (.read (.load 3 true) []), [.t 39], none⟩,
      ⟨(some 6), (.alloc (.alloc [(.int .i64 (Int.ofNat 0)), (.int .i64 (Int.ofNat 0)), (.bool false)])), [], none⟩,
      ⟨none, (.eff (.store 3)), [.t 6, .t 40], none⟩] false) c21_15)) c21_14)
def c21_13 : C := (.exit 0)
def c21_11 : C := (.seq (.cond (.t 38) .skip
    (.keep [] c21_13)) c21_12)
def c21_9 : C := (.seq (.seq (.region [
      ⟨(some 38), (.pure (.bin .lss)), [.t 37, .t 36], none⟩] false) c21_11) c21_10)
def c21_8 : C := (.block 0 (.loop (some [4, 35, 36, 37]) c21_9))
def c21_6 : C := (.seq (.seq (.region [
      ⟨(some 34), (.pure (.fadd 1)), [.t 1], none⟩,
      ⟨(some 35), (.read (.load 1 false) []), [.t 34], none⟩,
      ⟨(some 36), (.pure .lenS), [.t 35], none⟩,
      ⟨(some 37), (.pure .mov), [.c (.int .i64 (Int.ofNat 0))], none⟩] false) c21_8) c21_7)
def c21_2 : C := (.seq (.region [
      ⟨(some 4), (.alloc (.alloc [(.bool false), (.bool false), (.bool false), (.bool false), (.bool false), (.bool false), (.bool false), (.bool false)])), [], none⟩] false) c21_6)
def c21_5 : C := .ret
def c21_4 : C := (.keep [2] c21_5)
def c21_3 : C := (.cond (.t 33) (.seq (.region [
      ⟨(some 2), (.pure .mov), [.c (.bool false)], none⟩] false) c21_4)
    .skip)
def c21_1 : C := (.seq (.seq (.region [
      ⟨(some 10), (.pure (.fadd 0)), [.t 1], none⟩,
      ⟨(some 11), (.read (.load 1 false) []), [.t 10], none⟩,
      ⟨(some 12), (.pure (.bin .lss)), [.t 11, .c (.int .i64 (Int.ofNat 1))], none⟩,
      ⟨(some 13), (.pure .mov), [.t 12], none⟩,
      ⟨(some 14), (.pure (.fadd 0)), [.t 1], (some (13, false))⟩,
      ⟨(some 15), (.read (.load 1 false) []), [.t 14], (some (13, false))⟩,
      ⟨(some 16), (.pure (.bin .gtr)), [.t 15, .c (.int .i64 (Int.ofNat 1099511627776))], (some (13, false))⟩,
      ⟨(some 17), (.pure .pick), [.t 13, .c (.bool true), .t 16], none⟩,
      ⟨(some 18), (.pure .mov), [.t 17], none⟩,
      ⟨(some 19), (.pure .mov), [.t 3], (some (18, false))⟩,
      ⟨(some 20), (.pure (.bin .lss)), [.t 19, .c (.int .i64 (Int.ofNat 1))], (some (18, false))⟩,
      ⟨(some 21), (.pure .pick), [.t 18, .c (.bool true), .t 20], none⟩,
      ⟨(some 22), (.pure .mov), [.t 21], none⟩,
      ⟨(some 23), (.pure .mov), [.t 3], (some (22, false))⟩,
      ⟨(some 24), (.pure (.bin .gtr)), [.t 23, .c (.int .i64 (Int.ofNat 8))], (some (22, false))⟩,
      ⟨(some 25), (.pure .pick), [.t 22, .c (.bool true), .t 24], none⟩,
      ⟨(some 26), (.pure .mov), [.t 25], none⟩,
      ⟨(some 27), (.pure (.fadd 1)), [.t 1], (some (26, false))⟩,
      ⟨(some 28), (.read (.load 1 false) []), [.t 27], (some (26, false))⟩,
      ⟨(some 29), (.pure (.iaddS 3)), [.t 28, .c (.int .i64 (Int.ofNat 0))], (some (26, false))⟩,
      ⟨(some 30), (.pure (.fadd 2)), [.t 29], (some (26, false))⟩,
      ⟨(some 31), (.read (.load 1 false) []), [.t 30], (some (26, false))⟩,
      ⟨(some 32), (.pure (.un .not)), [.t 31], (some (26, false))⟩,
      ⟨(some 33), (.pure .pick), [.t 26, .c (.bool true), .t 32], none⟩] false) c21_3) c21_2)
def c21_0 : C := (.seq (.region [
      ⟨(some 7), (.pure (.fadd 1)), [.t 1], none⟩,
      ⟨(some 8), (.read (.load 1 false) []), [.t 7], none⟩,
      ⟨(some 9), (.pure .lenS), [.t 8], none⟩,
      ⟨(some 3), (.pure .mov), [.t 9], none⟩] false) c21_1)
def k21 : DFn := ⟨57, (.seq (.region [
      ⟨(some 1), (.alloc .box), [.t 0], none⟩,
      ⟨(some 2), (.pure .mov), [.c (.bool false)], none⟩] false) c21_0), [.tmp 2]⟩
theorem c21 : (match Tryz.prog.funcs[21]? with | some fn => compileFn Tryz.prog 4 [none, none, none, none, none, some [2], none, some [], none, some [4, 35, 36, 37], none, none, some [], none, none, none, none, none, some [2], none, some [2]] fn | none => none) = some k21 := by kernel_rfl


/-- tompion/config.Place -/
def c22_2 : C := .ret
def c22_1 : C := (.keep [4] c22_2)
def c22_0 : C := (.seq (.region [
      ⟨(some 5), (.pure (.fadd 1)), [.t 2], none⟩,
      ⟨(some 6), (.read (.load 1 false) []), [.t 5], none⟩,
      ⟨(some 7), (.pure (.func (.func 45) 0)), [.t 3], none⟩,
      ⟨(some 8), (.call 44), [.t 6, .t 7], none⟩,
      ⟨(some 4), (.pure .mov), [.t 8], none⟩] false) c22_1)
def k22 : DFn := ⟨9, (.seq (.region [
      ⟨(some 2), (.alloc .box), [.t 0], none⟩,
      ⟨(some 3), (.alloc .box), [.t 1], none⟩,
      ⟨(some 4), (.pure .mov), [.c (.int .i64 (Int.ofNat 0))], none⟩] false) c22_0), [.tmp 4]⟩
theorem c22 : (match Tryz.prog.funcs[22]? with | some fn => compileFn Tryz.prog 4 [none, none, some [4]] fn | none => none) = some k22 := by kernel_rfl
theorem e22 (tb : Nat → Option DFn) (nv : CallF) (a0 a1 : Value) (H : Heap) (Q : Value → Heap → Prop) : wFn tb nv k22 [a0, a1] H Q = (
    wA .box [a0] H fun x0 H1 =>
    wA .box [a1] H1 fun x2 H3 =>
    wP (.fadd 1) [x0] fun x4 =>
    wR (.load 1 false) [x4] H3 fun x5 =>
    wP (.func (.func 45) 0) [x2] fun x6 =>
    Ev tb nv 44 [x5, x6] H3 fun x7 H8 =>
    atK (Q x7 H8)) := by kernel_rfl

/-- slices.Clone[[]tompion/api.Seat,tompion/api.Seat] -/
def c23_6 : C := .ret
def c23_5 : C := (.keep [2] c23_6)
def c23_1 : C := (.seq (.region [
      ⟨(some 5), (.alloc (.bslice [] [] 3 0)), [], none⟩,
      ⟨(some 6), (.pure .mov), [.t 0], none⟩,
      ⟨(some 7), (.eff (.app 3 24)), [.t 5, .t 6], none⟩,
      ⟨(some 2), (.pure .mov), [.t 7], none⟩] false) c23_5)
def c23_4 : C := .ret
def c23_3 : C := (.keep [2] c23_4)
def c23_2 : C := (.cond (.t 4) (.seq (.region [
      ⟨(some 2), (.pure .mov), [.c (.slice none 0 0)], none⟩] false) c23_3)
    .skip)
def c23_0 : C := (.seq (.seq (.region [
      ⟨(some 3), (.pure .mov), [.t 0], none⟩,
      ⟨(some 4), (.pure (.nilEq false .slice)), [.t 3], none⟩] false) c23_2) c23_1)
def k23 : DFn := ⟨8, (.seq (.region [
      ⟨(some 2), (.pure .mov), [.c (.slice none 0 0)], none⟩] false) c23_0), [.tmp 2]⟩
theorem c23 : (match Tryz.prog.funcs[23]? with | some fn => compileFn Tryz.prog 4 [none, none, none, none, some [2], none, some [2]] fn | none => none) = some k23 := by kernel_rfl


/-- (*tompion/node.Node).sits -/
def c24_2 : C := .ret
def c24_1 : C := (.keep [2] c24_2)
def c24_0 : C := (.seq (.region [
      ⟨(some 3), (.pure .mov), [.t 0], none⟩,
      ⟨(some 4), (.call 46), [.t 3], none⟩,
      ⟨(some 5), (.pure (.bin .geq)), [.t 4, .c (.int .i64 (Int.ofNat 0))], none⟩,
      ⟨(some 2), (.pure .mov), [.t 5], none⟩] false) c24_1)
def k24 : DFn := ⟨6, (.seq (.region [
      ⟨(some 2), (.pure .mov), [.c (.bool false)], none⟩] false) c24_0), [.tmp 2]⟩
theorem c24 : (match Tryz.prog.funcs[24]? with | some fn => compileFn Tryz.prog 4 [none, none, some [2]] fn | none => none) = some k24 := by kernel_rfl
theorem e24 (tb : Nat → Option DFn) (nv : CallF) (a0 : Value) (H : Heap) (Q : Value → Heap → Prop) : wFn tb nv k24 [a0] H Q = (
    Ev tb nv 46 [a0] H fun x0 H1 =>
    wP (.bin .geq) [x0, (.int .i64 0)] fun x2 =>
    atK (Q x2 H1)) := by kernel_rfl

/-- (*tompion/node.Node).fire -/
def c25_21 : C := .ret
def c25_20 : C := (.keep [4] c25_21)
def c25_19 : C := (.seq (.region [
      ⟨(some 43), (.pure .mov), [.t 0], none⟩,
      ⟨(some 44), (.call 50), [.t 43], none⟩,
      ⟨(some 4), (.pure .mov), [.t 44], none⟩] false) c25_20)
def c25_5 : C := (.keep [0] c25_19)
def c25_18 : C := .skip
def c25_8 : C := (.keep [0, 18, 19, 20] c25_18)
def c25_12 : C := (.region [
      ⟨(some 42), (.pure (.bin .add)), [.t 20, .c (.int .i64 (Int.ofNat 1))], none⟩,
      ⟨(some 20), (.pure .mov), [.t 42], none⟩] false)
def c25_17 : C := (.exit 0)
def c25_16 : C := (.cond (.t 41) (.keep [0] c25_17)
    .skip)
def c25_15 : C := (.seq (.region [
      ⟨(some 40), (.pure .mov), [.t 9], none⟩,
      ⟨(some 41), (.pure (.bin .neq)), [.t 40, .c (.int .i64 (Int.ofNat 0))], none⟩] false) c25_16)
def c25_14 : C := (.seq (.region [
      ⟨(some 31), (.pure .mov), [.t 0], none⟩,
      ⟨(some 32), (.pure .nilchk), [.t 31], none⟩,
      ⟨(some 33), (.pure (.fadd 9)), [.t 32], none⟩,
      ⟨(some 34), (.read (.load 1 false) []), [.t 33], none⟩,
      ⟨(some 35), (.read (.load 10 true) []), [.t 6], none⟩,
      ⟨(some 36), (.call 49), [.t 34, .t 35], none⟩,
      ⟨(some 30), (.pure .mov), [.t 36], none⟩,
      ⟨(some 37), (.pure (.extract 0)), [.t 30], none⟩,
      ⟨(some 38), (.pure (.extract 1)), [.t 30], none⟩,
      ⟨(some 39), (.pure (.extract 2)), [.t 30], none⟩,
      ⟨(some 8), (.alloc (.alloc [(.int .i64 (Int.ofNat 0)), (.int .i64 (Int.ofNat 0)), (.int .i64 (Int.ofNat 0))])), [], none⟩,
      ⟨(some 7), (.pure .mov), [.t 37], none⟩,
      ⟨none, (.eff (.store 3)), [.t 8, .t 38], none⟩,
      ⟨(some 9), (.pure .mov), [.t 39], none⟩] false) c25_15)
def c25_13 : C := (.seq (.region [
      ⟨(some 24), (.pure .mov), [.t 0], none⟩,
      ⟨(some 25), (.pure .nilchk), [.t 24], none⟩,
      ⟨(some 26), (.pure (.fadd 10)), [.t 25], none⟩,
      ⟨(some 27), (.pure (.fadd 0)), [.t 26], none⟩,
      ⟨(some 28), (.read (.load 1 false) []), [.t 27], none⟩,
      ⟨(some 29), (.pure (.fadd 8)), [.t 6], none⟩,
      ⟨none, (.eff (.store 1)), [.t 29, .t 28], none⟩] false) c25_14)
def c25_10 : C := (.seq (.block 1 (.seq (.region [
      ⟨(some 22), (.pure (.iaddS 10)), [.t 18, .t 20], none⟩,
      ⟨(some 23), (.read (.load 10 true) []), [.t 22], none⟩,
      ⟨(some 6), (.alloc (.alloc [(.int .i64 (Int.ofNat 0)), (.int .i64 (Int.ofNat 0)), (.int .i64 (Int.ofNat 0)), (.int .i64 (Int.ofNat 0)), (.int .i64 (Int.ofNat 0)), (.int .i64 (Int.ofNat 0)), (.int .i64 (Int.ofNat 0)), (.int .i64 (Int.ofNat 0)), (.int .i64 (Int.ofNat 0)), (.string ⟨⟨[]⟩⟩)])), [], none⟩,
      ⟨none, (.eff (.store 10)), [.t 6, .t 23], none⟩] false) c25_13)) c25_12)
def c25_11 : C := (.exit 0)
def c25_9 : C := (.seq (.cond (.t 21) .skip
    (.keep [0] c25_11)) c25_10)
def c25_7 : C := (.seq (.seq (.region [
      ⟨(some 21), (.pure (.bin .lss)), [.t 20, .t 19], none⟩] false) c25_9) c25_8)
def c25_6 : C := (.block 0 (.loop (some [0, 18, 19, 20]) c25_7))
def c25_1 : C := (.seq (.seq (.region [
      ⟨(some 13), (.pure .mov), [.t 0], none⟩,
      ⟨(some 14), (.pure .nilchk), [.t 13], none⟩,
      ⟨(some 15), (.pure (.fadd 9)), [.t 14], none⟩,
      ⟨(some 16), (.read (.load 1 false) []), [.t 15], none⟩,
      ⟨(some 17), (.pure .mov), [.t 1], none⟩,
      ⟨(some 18), (.call 48), [.t 16, .t 17, .c (.int .i64 (Int.ofNat 4))], none⟩,
      ⟨(some 19), (.pure .lenS), [.t 18], none⟩,
      ⟨(some 20), (.pure .mov), [.c (.int .i64 (Int.ofNat 0))], none⟩] false) c25_6) c25_5)
def c25_4 : C := .ret
def c25_3 : C := (.keep [4] c25_4)
def c25_2 : C := (.cond (.t 12) (.seq (.region [
      ⟨(some 4), (.pure .mov), [.c (.slice none 0 0)], none⟩] false) c25_3)
    .skip)
def c25_0 : C := (.seq (.seq (.region [
      ⟨(some 10), (.pure .mov), [.t 0], none⟩,
      ⟨(some 11), (.call 47), [.t 10], none⟩,
      ⟨(some 12), (.pure (.un .not)), [.t 11], none⟩] false) c25_2) c25_1)
def k25 : DFn := ⟨45, (.seq (.region [
      ⟨(some 4), (.pure .mov), [.c (.slice none 0 0)], none⟩] false) c25_0), [.tmp 4]⟩
theorem c25 : (match Tryz.prog.funcs[25]? with | some fn => compileFn Tryz.prog 4 [none, none, none, none, some [4], some [0], none, some [0, 18, 19, 20], none, none, some [0], none, none, none, none, none, some [0], none, some [4]] fn | none => none) = some k25 := by kernel_rfl


/-- (*tompion/node.Node).sync -/
def c26_6 : C := .ret
def c26_5 : C := (.keep [2] c26_6)
def c26_1 : C := (.seq (.region [
      ⟨(some 8), (.pure .mov), [.t 0], none⟩,
      ⟨(some 9), (.pure .mov), [.t 0], none⟩,
      ⟨(some 10), (.pure .nilchk), [.t 9], none⟩,
      ⟨(some 11), (.pure (.fadd 9)), [.t 10], none⟩,
      ⟨(some 12), (.read (.load 1 false) []), [.t 11], none⟩,
      ⟨(some 13), (.call 52), [.t 12], none⟩,
      ⟨(some 14), (.call 51), [.t 8, .c (.int .i64 (Int.ofNat 3)), .t 13], none⟩,
      ⟨(some 2), (.pure .mov), [.t 14], none⟩] false) c26_5)
def c26_4 : C := .ret
def c26_3 : C := (.keep [2] c26_4)
def c26_2 : C := (.cond (.t 7) (.seq (.region [
      ⟨(some 2), (.pure .mov), [.c (.slice none 0 0)], none⟩] false) c26_3)
    .skip)
def c26_0 : C := (.seq (.seq (.region [
      ⟨(some 3), (.pure .mov), [.t 0], none⟩,
      ⟨(some 4), (.pure .nilchk), [.t 3], none⟩,
      ⟨(some 5), (.pure (.fadd 15)), [.t 4], none⟩,
      ⟨(some 6), (.read (.load 1 false) []), [.t 5], none⟩,
      ⟨(some 7), (.pure (.un .not)), [.t 6], none⟩] false) c26_2) c26_1)
def k26 : DFn := ⟨15, (.seq (.region [
      ⟨(some 2), (.pure .mov), [.c (.slice none 0 0)], none⟩] false) c26_0), [.tmp 2]⟩
theorem c26 : (match Tryz.prog.funcs[26]? with | some fn => compileFn Tryz.prog 4 [none, none, none, none, some [2], none, some [2]] fn | none => none) = some k26 := by kernel_rfl


end Go.Proofs.YtdpbbppjjjhnoaaGreatDoor.D
