/- The compiled functions of the seat, as the machine "D" runs them (written by a program). No statement of the seat is proved in this text. -/
import Derived.Test.YtfflfehfjgkcdaaDx
import Derived.Test.YtfflfehfjgkcdaaProg
set_option maxRecDepth 100000
namespace Go.Proofs.Ytfflfehfjgkcdaa.D
open Go
/-- (*tompion/client.Client).Cursor -/
def k14 : DFn := ⟨9, (.seq (.region [
      ⟨(some 2), (.pure .mov), [.c (.int .i64 (Int.ofNat 0))], none⟩] false)
    (.seq (.seq (.region [
      ⟨(some 3), (.pure .mov), [.t 0], none⟩,
      ⟨(some 4), (.pure (.nilEq false .ptr)), [.t 3], none⟩] false)
    (.cond (.t 4) (.seq (.region [
      ⟨(some 2), (.pure .mov), [.c (.int .i64 (Int.ofNat 0))], none⟩] false)
    .ret)
    .skip))
    (.seq (.region [
      ⟨(some 5), (.pure .mov), [.t 0], none⟩,
      ⟨(some 6), (.pure .nilchk), [.t 5], none⟩,
      ⟨(some 7), (.pure (.fadd 8)), [.t 6], none⟩,
      ⟨(some 8), (.read (.load 1 false) []), [.t 7], none⟩,
      ⟨(some 2), (.pure .mov), [.t 8], none⟩] false)
    .ret))), [.tmp 2]⟩
theorem c14 : (match Try.prog.funcs[14]? with | some fn => compileFn Try.prog 0 [] fn | none => none) = some k14 := by kernel_rfl

/-- (*tompion/client.Client).Handed -/
def k15 : DFn := ⟨10, (.seq (.region [
      ⟨(some 2), (.pure .mov), [.c (.slice none 0 0)], none⟩] false)
    (.seq (.seq (.region [
      ⟨(some 3), (.pure .mov), [.t 0], none⟩,
      ⟨(some 4), (.pure (.nilEq false .ptr)), [.t 3], none⟩] false)
    (.cond (.t 4) (.seq (.region [
      ⟨(some 2), (.pure .mov), [.c (.slice none 0 0)], none⟩] false)
    .ret)
    .skip))
    (.seq (.region [
      ⟨(some 5), (.pure .mov), [.t 0], none⟩,
      ⟨(some 6), (.pure .nilchk), [.t 5], none⟩,
      ⟨(some 7), (.pure (.fadd 6)), [.t 6], none⟩,
      ⟨(some 8), (.read (.load 1 false) []), [.t 7], none⟩,
      ⟨(some 9), (.call 28), [.t 8], none⟩,
      ⟨(some 2), (.pure .mov), [.t 9], none⟩] false)
    .ret))), [.tmp 2]⟩
theorem c15 : (match Try.prog.funcs[15]? with | some fn => compileFn Try.prog 0 [] fn | none => none) = some k15 := by kernel_rfl

/-- tompion/tompionref11.Right -/
def k16 : DFn := ⟨68, (.seq (.region [
      ⟨(some 1), (.alloc .box), [.t 0], none⟩,
      ⟨(some 2), (.pure .mov), [.c (.bool false)], none⟩] false)
    (.seq (.seq (.region [
      ⟨(some 5), (.pure (.fadd 0)), [.t 1], none⟩,
      ⟨(some 6), (.read (.load 1 false) []), [.t 5], none⟩,
      ⟨(some 7), (.pure (.bin .lss)), [.t 6, .c (.int .i64 (Int.ofNat 1))], none⟩,
      ⟨(some 8), (.pure .mov), [.t 7], none⟩,
      ⟨(some 9), (.pure (.fadd 0)), [.t 1], (some (8, false))⟩,
      ⟨(some 10), (.read (.load 1 false) []), [.t 9], (some (8, false))⟩,
      ⟨(some 11), (.pure (.bin .gtr)), [.t 10, .c (.int .i64 (Int.ofNat 1099511627776))], (some (8, false))⟩,
      ⟨(some 12), (.pure .pick), [.t 8, .c (.bool true), .t 11], none⟩,
      ⟨(some 13), (.pure .mov), [.t 12], none⟩,
      ⟨(some 14), (.pure (.fadd 1)), [.t 1], (some (13, false))⟩,
      ⟨(some 15), (.read (.load 1 false) []), [.t 14], (some (13, false))⟩,
      ⟨(some 16), (.pure .lenS), [.t 15], (some (13, false))⟩,
      ⟨(some 17), (.pure (.bin .lss)), [.t 16, .c (.int .i64 (Int.ofNat 1))], (some (13, false))⟩,
      ⟨(some 18), (.pure .pick), [.t 13, .c (.bool true), .t 17], none⟩,
      ⟨(some 19), (.pure .mov), [.t 18], none⟩,
      ⟨(some 20), (.pure (.fadd 1)), [.t 1], (some (19, false))⟩,
      ⟨(some 21), (.read (.load 1 false) []), [.t 20], (some (19, false))⟩,
      ⟨(some 22), (.pure .lenS), [.t 21], (some (19, false))⟩,
      ⟨(some 23), (.pure (.bin .gtr)), [.t 22, .c (.int .i64 (Int.ofNat 8))], (some (19, false))⟩,
      ⟨(some 24), (.pure .pick), [.t 19, .c (.bool true), .t 23], none⟩,
      ⟨(some 25), (.pure .mov), [.t 24], none⟩,
      ⟨(some 26), (.pure (.fadd 1)), [.t 1], (some (25, false))⟩,
      ⟨(some 27), (.read (.load 1 false) []), [.t 26], (some (25, false))⟩,
      ⟨(some 28), (.pure (.iaddS 3)), [.t 27, .c (.int .i64 (Int.ofNat 0))], (some (25, false))⟩,
      ⟨(some 29), (.pure (.fadd 2)), [.t 28], (some (25, false))⟩,
      ⟨(some 30), (.read (.load 1 false) []), [.t 29], (some (25, false))⟩,
      ⟨(some 31), (.pure (.un .not)), [.t 30], (some (25, false))⟩,
      ⟨(some 32), (.pure .pick), [.t 25, .c (.bool true), .t 31], none⟩] false)
    (.cond (.t 32) (.seq (.region [
      ⟨(some 2), (.pure .mov), [.c (.bool false)], none⟩] false)
    .ret)
    .skip))
    (.seq (.seq (.region [
      ⟨(some 3), (.pure .mov), [.c (.int .i64 (Int.ofNat 0))], none⟩] false)
    (.block 0 (.loop none (.seq (.seq (.region [
      ⟨(some 33), (.pure .mov), [.t 3], none⟩,
      ⟨(some 34), (.pure (.fadd 1)), [.t 1], none⟩,
      ⟨(some 35), (.read (.load 1 false) []), [.t 34], none⟩,
      ⟨(some 36), (.pure .lenS), [.t 35], none⟩,
      ⟨(some 37), (.pure (.bin .lss)), [.t 33, .t 36], none⟩] false)
    (.cond (.t 37) .skip
    (.exit 0)))
    (.seq (.block 1 (.seq (.seq (.region [
      ⟨(some 40), (.pure (.fadd 1)), [.t 1], none⟩,
      ⟨(some 41), (.read (.load 1 false) []), [.t 40], none⟩,
      ⟨(some 42), (.pure .mov), [.t 3], none⟩,
      ⟨(some 43), (.pure (.iaddS 3)), [.t 41, .t 42], none⟩,
      ⟨(some 44), (.pure (.fadd 0)), [.t 43], none⟩,
      ⟨(some 45), (.read (.load 2 true) []), [.t 44], none⟩,
      ⟨(some 46), (.call 29), [.t 45], none⟩,
      ⟨(some 47), (.pure (.un .not)), [.t 46], none⟩] false)
    (.cond (.t 47) (.seq (.region [
      ⟨(some 2), (.pure .mov), [.c (.bool false)], none⟩] false)
    .ret)
    .skip))
    (.seq (.region [
      ⟨(some 4), (.pure .mov), [.c (.int .i64 (Int.ofNat 0))], none⟩] false)
    (.block 2 (.loop none (.seq (.seq (.region [
      ⟨(some 48), (.pure .mov), [.t 4], none⟩,
      ⟨(some 49), (.pure .mov), [.t 3], none⟩,
      ⟨(some 50), (.pure (.bin .lss)), [.t 48, .t 49], none⟩] false)
    (.cond (.t 50) .skip
    (.exit 2)))
    (.seq (.block 3 (.seq (.region [
      ⟨(some 53), (.pure (.fadd 1)), [.t 1], none⟩,
      ⟨(some 54), (.read (.load 1 false) []), [.t 53], none⟩,
      ⟨(some 55), (.pure .mov), [.t 4], none⟩,
      ⟨(some 56), (.pure (.iaddS 3)), [.t 54, .t 55], none⟩,
      ⟨(some 57), (.pure (.fadd 0)), [.t 56], none⟩,
      ⟨(some 58), (.pure (.fadd 0)), [.t 57], none⟩,
      ⟨(some 59), (.read (.load 1 false) []), [.t 58], none⟩,
      ⟨(some 60), (.pure (.fadd 1)), [.t 1], none⟩,
      ⟨(some 61), (.read (.load 1 false) []), [.t 60], none⟩,
      ⟨(some 62), (.pure .mov), [.t 3], none⟩,
      ⟨(some 63), (.pure (.iaddS 3)), [.t 61, .t 62], none⟩,
      ⟨(some 64), (.pure (.fadd 0)), [.t 63], none⟩,
      ⟨(some 65), (.pure (.fadd 0)), [.t 64], none⟩,
      ⟨(some 66), (.read (.load 1 false) []), [.t 65], none⟩,
      ⟨(some 67), (.pure (.bin .eql)), [.t 59, .t 66], none⟩] false)
    (.cond (.t 67) (.seq (.region [
      ⟨(some 2), (.pure .mov), [.c (.bool false)], none⟩] false)
    .ret)
    .skip)))
    (.region [
      ⟨(some 51), (.pure .mov), [.t 4], none⟩,
      ⟨(some 52), (.pure (.bin .add)), [.t 51, .c (.int .i64 (Int.ofNat 1))], none⟩,
      ⟨(some 4), (.pure .mov), [.t 52], none⟩] false))))))))
    (.region [
      ⟨(some 38), (.pure .mov), [.t 3], none⟩,
      ⟨(some 39), (.pure (.bin .add)), [.t 38, .c (.int .i64 (Int.ofNat 1))], none⟩,
      ⟨(some 3), (.pure .mov), [.t 39], none⟩] false))))))
    (.seq (.region [
      ⟨(some 2), (.pure .mov), [.c (.bool true)], none⟩] false)
    .ret)))), [.tmp 2]⟩
theorem c16 : (match Try.prog.funcs[16]? with | some fn => compileFn Try.prog 0 [] fn | none => none) = some k16 := by kernel_rfl

/-- (*tompion/client.Client).Tick -/
def k17 : DFn := ⟨58, (.seq (.region [
      ⟨(some 4), (.pure .mov), [.c (.slice none 0 0)], none⟩] false)
    (.seq (.seq (.region [
      ⟨(some 8), (.pure .mov), [.t 0], none⟩,
      ⟨(some 9), (.pure (.nilEq false .ptr)), [.t 8], none⟩] false)
    (.cond (.t 9) (.seq (.region [
      ⟨(some 4), (.pure .mov), [.c (.slice none 0 0)], none⟩] false)
    .ret)
    .skip))
    (.seq (.seq (.region [
      ⟨(some 10), (.pure .mov), [.t 0], none⟩,
      ⟨(some 11), (.pure .nilchk), [.t 10], none⟩,
      ⟨(some 12), (.pure (.fadd 2)), [.t 11], none⟩,
      ⟨(some 13), (.read (.load 1 false) []), [.t 12], none⟩,
      ⟨(some 14), (.pure (.nilEq true .ptr)), [.t 13], none⟩] false)
    (.cond (.t 14) (.seq (.region [
      ⟨(some 15), (.pure .mov), [.t 1], none⟩,
      ⟨(some 16), (.pure .mov), [.t 0], none⟩,
      ⟨(some 17), (.pure .nilchk), [.t 16], none⟩,
      ⟨(some 18), (.pure (.fadd 2)), [.t 17], none⟩,
      ⟨(some 19), (.read (.load 1 false) []), [.t 18], none⟩,
      ⟨(some 20), (.pure .nilchk), [.t 19], none⟩,
      ⟨(some 21), (.pure (.fadd 6)), [.t 20], none⟩,
      ⟨(some 22), (.read (.load 1 false) []), [.t 21], none⟩,
      ⟨(some 23), (.pure (.bin .sub)), [.t 15, .t 22], none⟩,
      ⟨(some 24), (.pure (.bin .gtr)), [.t 23, .c (.int .i64 (Int.ofNat 500))], none⟩] false)
    (.cond (.t 24) (.region [
      ⟨(some 25), (.pure .mov), [.t 0], none⟩,
      ⟨(some 26), (.pure (.build [(.int .i64 (Int.ofNat 0)), (.int .i64 (Int.ofNat 0)), (.int .i64 (Int.ofNat 0))] [(0, 1)])), [.c (.int .i64 (Int.ofNat 9))], none⟩,
      ⟨(some 27), (.call 26), [.t 25, .t 26, .c (.int .i64 (Int.ofNat 0))], none⟩] false)
    (.region [
      ⟨(some 28), (.pure .mov), [.t 0], none⟩,
      ⟨(some 29), (.call 22), [.t 28], none⟩,
      ⟨(some 4), (.pure .mov), [.t 29], none⟩] false)))
    .skip))
    (.seq (.region [
      ⟨(some 30), (.pure .mov), [.t 4], none⟩,
      ⟨(some 31), (.pure .mov), [.t 0], none⟩,
      ⟨(some 32), (.call 30), [.t 31, .c (.int .i64 (Int.ofNat 15)), .c (.int .i64 (Int.ofNat 200))], none⟩,
      ⟨(some 33), (.alloc (.bslice [(.int .i64 (Int.ofNat 0)), (.int .i64 (Int.ofNat 0)), (.int .i64 (Int.ofNat 0)), (.int .i64 (Int.ofNat 0)), (.int .i64 (Int.ofNat 0)), (.int .i64 (Int.ofNat 0)), (.int .i64 (Int.ofNat 0)), (.int .i64 (Int.ofNat 0)), (.int .i64 (Int.ofNat 0)), (.int .i64 (Int.ofNat 0)), (.bool false), (.int .i64 (Int.ofNat 0)), (.int .i64 (Int.ofNat 0)), (.int .i64 (Int.ofNat 0)), (.int .i64 (Int.ofNat 0)), (.int .i64 (Int.ofNat 0)), (.int .i64 (Int.ofNat 0)), (.int .i64 (Int.ofNat 0)), (.int .i64 (Int.ofNat 0)), (.int .i64 (Int.ofNat 0)), (.string ⟨⟨[]⟩⟩), (.int .i64 (Int.ofNat 0)), (.int .i64 (Int.ofNat 0)), (.int .i64 (Int.ofNat 0)), (.int .i64 (Int.ofNat 0)), (.slice none 0 0), (.slice none 0 0), (.int .i64 (Int.ofNat 0))] [(0, 28)] 28 1)), [.t 32], none⟩,
      ⟨(some 34), (.eff (.app 28 264)), [.t 30, .t 33], none⟩,
      ⟨(some 4), (.pure .mov), [.t 34], none⟩] false)
    (.seq (.seq (.region [
      ⟨(some 36), (.pure .mov), [.t 0], none⟩,
      ⟨(some 37), (.pure .nilchk), [.t 36], none⟩,
      ⟨(some 38), (.pure (.fadd 3)), [.t 37], none⟩,
      ⟨(some 39), (.read (.load 2 true) []), [.t 38], none⟩,
      ⟨(some 40), (.call 31), [.t 39], none⟩,
      ⟨(some 35), (.pure .mov), [.t 40], none⟩,
      ⟨(some 41), (.pure (.extract 0)), [.t 35], none⟩,
      ⟨(some 42), (.pure (.extract 1)), [.t 35], none⟩,
      ⟨(some 5), (.alloc (.alloc [(.int .i64 (Int.ofNat 0)), (.int .i64 (Int.ofNat 0))])), [], none⟩,
      ⟨none, (.eff (.store 2)), [.t 5, .t 41], none⟩,
      ⟨(some 6), (.pure .mov), [.t 42], none⟩] false)
    (.seq (.region [
      ⟨(some 43), (.pure .mov), [.t 6], none⟩] false)
    (.cond (.t 43) (.seq (.region [
      ⟨(some 44), (.pure .mov), [.t 0], none⟩,
      ⟨(some 45), (.pure (.fadd 0)), [.t 5], none⟩,
      ⟨(some 46), (.read (.load 1 false) []), [.t 45], none⟩,
      ⟨(some 47), (.call 30), [.t 44, .c (.int .i64 (Int.ofNat 13)), .t 46], none⟩,
      ⟨(some 7), (.alloc (.alloc [(.int .i64 (Int.ofNat 0)), (.int .i64 (Int.ofNat 0)), (.int .i64 (Int.ofNat 0)), (.int .i64 (Int.ofNat 0)), (.int .i64 (Int.ofNat 0)), (.int .i64 (Int.ofNat 0)), (.int .i64 (Int.ofNat 0)), (.int .i64 (Int.ofNat 0)), (.int .i64 (Int.ofNat 0)), (.int .i64 (Int.ofNat 0)), (.bool false), (.int .i64 (Int.ofNat 0)), (.int .i64 (Int.ofNat 0)), (.int .i64 (Int.ofNat 0)), (.int .i64 (Int.ofNat 0)), (.int .i64 (Int.ofNat 0)), (.int .i64 (Int.ofNat 0)), (.int .i64 (Int.ofNat 0)), (.int .i64 (Int.ofNat 0)), (.int .i64 (Int.ofNat 0)), (.string ⟨⟨[]⟩⟩), (.int .i64 (Int.ofNat 0)), (.int .i64 (Int.ofNat 0)), (.int .i64 (Int.ofNat 0)), (.int .i64 (Int.ofNat 0)), (.slice none 0 0), (.slice none 0 0), (.int .i64 (Int.ofNat 0))])), [], none⟩,
      ⟨none, (.eff (.store 28)), [.t 7, .t 47], none⟩] false)
    (.seq (.region [
      ⟨(some 48), (.pure .mov), [.t 0], none⟩,
      ⟨(some 49), (.pure .nilchk), [.t 48], none⟩,
      ⟨(some 50), (.pure (.fadd 8)), [.t 49], none⟩,
      ⟨(some 51), (.read (.load 1 false) []), [.t 50], none⟩,
      ⟨(some 52), (.pure (.fadd 5)), [.t 7], none⟩,
      ⟨none, (.eff (.store 1)), [.t 52, .t 51], none⟩] false)
    (.region [
      ⟨(some 53), (.pure .mov), [.t 4], none⟩,
      ⟨(some 54), (.read (.load 28 true) []), [.t 7], none⟩,
      ⟨(some 55), (.alloc (.bslice [(.int .i64 (Int.ofNat 0)), (.int .i64 (Int.ofNat 0)), (.int .i64 (Int.ofNat 0)), (.int .i64 (Int.ofNat 0)), (.int .i64 (Int.ofNat 0)), (.int .i64 (Int.ofNat 0)), (.int .i64 (Int.ofNat 0)), (.int .i64 (Int.ofNat 0)), (.int .i64 (Int.ofNat 0)), (.int .i64 (Int.ofNat 0)), (.bool false), (.int .i64 (Int.ofNat 0)), (.int .i64 (Int.ofNat 0)), (.int .i64 (Int.ofNat 0)), (.int .i64 (Int.ofNat 0)), (.int .i64 (Int.ofNat 0)), (.int .i64 (Int.ofNat 0)), (.int .i64 (Int.ofNat 0)), (.int .i64 (Int.ofNat 0)), (.int .i64 (Int.ofNat 0)), (.string ⟨⟨[]⟩⟩), (.int .i64 (Int.ofNat 0)), (.int .i64 (Int.ofNat 0)), (.int .i64 (Int.ofNat 0)), (.int .i64 (Int.ofNat 0)), (.slice none 0 0), (.slice none 0 0), (.int .i64 (Int.ofNat 0))] [(0, 28)] 28 1)), [.t 54], none⟩,
      ⟨(some 56), (.eff (.app 28 264)), [.t 53, .t 55], none⟩,
      ⟨(some 4), (.pure .mov), [.t 56], none⟩] false)))
    .skip)))
    (.seq (.region [
      ⟨(some 57), (.pure .mov), [.t 4], none⟩,
      ⟨(some 4), (.pure .mov), [.t 57], none⟩] false)
    .ret)))))), [.tmp 4]⟩
theorem c17 : (match Try.prog.funcs[17]? with | some fn => compileFn Try.prog 0 [] fn | none => none) = some k17 := by kernel_rfl

/-- tompion/tompionref11.Same -/
def k18 : DFn := ⟨38, (.seq (.region [
      ⟨(some 2), (.alloc .box), [.t 0], none⟩,
      ⟨(some 3), (.alloc .box), [.t 1], none⟩,
      ⟨(some 4), (.pure .mov), [.c (.bool false)], none⟩] false)
    (.seq (.seq (.region [
      ⟨(some 6), (.pure (.fadd 0)), [.t 2], none⟩,
      ⟨(some 7), (.read (.load 1 false) []), [.t 6], none⟩,
      ⟨(some 8), (.pure (.fadd 0)), [.t 3], none⟩,
      ⟨(some 9), (.read (.load 1 false) []), [.t 8], none⟩,
      ⟨(some 10), (.pure (.bin .neq)), [.t 7, .t 9], none⟩,
      ⟨(some 11), (.pure .mov), [.t 10], none⟩,
      ⟨(some 12), (.pure (.fadd 1)), [.t 2], (some (11, false))⟩,
      ⟨(some 13), (.read (.load 1 false) []), [.t 12], (some (11, false))⟩,
      ⟨(some 14), (.pure .lenS), [.t 13], (some (11, false))⟩,
      ⟨(some 15), (.pure (.fadd 1)), [.t 3], (some (11, false))⟩,
      ⟨(some 16), (.read (.load 1 false) []), [.t 15], (some (11, false))⟩,
      ⟨(some 17), (.pure .lenS), [.t 16], (some (11, false))⟩,
      ⟨(some 18), (.pure (.bin .neq)), [.t 14, .t 17], (some (11, false))⟩,
      ⟨(some 19), (.pure .pick), [.t 11, .c (.bool true), .t 18], none⟩] false)
    (.cond (.t 19) (.seq (.region [
      ⟨(some 4), (.pure .mov), [.c (.bool false)], none⟩] false)
    .ret)
    .skip))
    (.seq (.seq (.region [
      ⟨(some 5), (.pure .mov), [.c (.int .i64 (Int.ofNat 0))], none⟩] false)
    (.block 0 (.loop none (.seq (.seq (.region [
      ⟨(some 20), (.pure .mov), [.t 5], none⟩,
      ⟨(some 21), (.pure (.fadd 1)), [.t 2], none⟩,
      ⟨(some 22), (.read (.load 1 false) []), [.t 21], none⟩,
      ⟨(some 23), (.pure .lenS), [.t 22], none⟩,
      ⟨(some 24), (.pure (.bin .lss)), [.t 20, .t 23], none⟩] false)
    (.cond (.t 24) .skip
    (.exit 0)))
    (.seq (.block 1 (.seq (.region [
      ⟨(some 27), (.pure (.fadd 1)), [.t 2], none⟩,
      ⟨(some 28), (.read (.load 1 false) []), [.t 27], none⟩,
      ⟨(some 29), (.pure .mov), [.t 5], none⟩,
      ⟨(some 30), (.pure (.iaddS 3)), [.t 28, .t 29], none⟩,
      ⟨(some 31), (.read (.load 3 true) []), [.t 30], none⟩,
      ⟨(some 32), (.pure (.fadd 1)), [.t 3], none⟩,
      ⟨(some 33), (.read (.load 1 false) []), [.t 32], none⟩,
      ⟨(some 34), (.pure .mov), [.t 5], none⟩,
      ⟨(some 35), (.pure (.iaddS 3)), [.t 33, .t 34], none⟩,
      ⟨(some 36), (.read (.load 3 true) []), [.t 35], none⟩,
      ⟨(some 37), (.pure (.aggEq true [.i, .i, .b])), [.t 31, .t 36], none⟩] false)
    (.cond (.t 37) (.seq (.region [
      ⟨(some 4), (.pure .mov), [.c (.bool false)], none⟩] false)
    .ret)
    .skip)))
    (.region [
      ⟨(some 25), (.pure .mov), [.t 5], none⟩,
      ⟨(some 26), (.pure (.bin .add)), [.t 25, .c (.int .i64 (Int.ofNat 1))], none⟩,
      ⟨(some 5), (.pure .mov), [.t 26], none⟩] false))))))
    (.seq (.region [
      ⟨(some 4), (.pure .mov), [.c (.bool true)], none⟩] false)
    .ret)))), [.tmp 4]⟩
theorem c18 : (match Try.prog.funcs[18]? with | some fn => compileFn Try.prog 0 [] fn | none => none) = some k18 := by kernel_rfl

/-- (*tompion/client.Client).Config -/
def k19 : DFn := ⟨18, (.seq (.region [
      ⟨(some 2), (.alloc (.alloc [(.int .i64 (Int.ofNat 0)), (.slice none 0 0)])), [], none⟩] false)
    (.seq (.seq (.region [
      ⟨(some 3), (.pure .mov), [.t 0], none⟩,
      ⟨(some 4), (.pure (.nilEq false .ptr)), [.t 3], none⟩] false)
    (.cond (.t 4) (.seq (.region [
      ⟨(some 5), (.pure (.build [(.int .i64 (Int.ofNat 0)), (.slice none 0 0)] [])), [], none⟩,
      ⟨none, (.eff (.store 2)), [.t 2, .t 5], none⟩] false)
    .ret)
    .skip))
    (.seq (.region [
      ⟨(some 6), (.pure .mov), [.t 0], none⟩,
      ⟨(some 7), (.pure .nilchk), [.t 6], none⟩,
      ⟨(some 8), (.pure (.fadd 3)), [.t 7], none⟩,
      ⟨(some 9), (.pure (.fadd 0)), [.t 8], none⟩,
      ⟨(some 10), (.read (.load 1 false) [11]), [.t 9], none⟩,
      ⟨(some 11), (.pure .mov), [.t 0], none⟩,
      ⟨(some 12), (.pure .nilchk), [.t 11], none⟩,
      ⟨(some 13), (.pure (.fadd 3)), [.t 12], none⟩,
      ⟨(some 14), (.pure (.fadd 1)), [.t 13], none⟩,
      ⟨(some 15), (.read (.load 1 false) []), [.t 14], none⟩,
      ⟨(some 16), (.call 24), [.t 15], none⟩,
      ⟨(some 17), (.pure (.build [(.int .i64 (Int.ofNat 0)), (.slice none 0 0)] [(0, 1), (1, 1)])), [.t 10, .t 16], none⟩,
      ⟨none, (.eff (.store 2)), [.t 2, .t 17], none⟩] true)
    .ret))), [.cell 2 2 true]⟩
theorem c19 : (match Try.prog.funcs[19]? with | some fn => compileFn Try.prog 0 [] fn | none => none) = some k19 := by kernel_rfl

/-- tompion/tompionref12.Few -/
def k20 : DFn := ⟨21, (.seq (.region [
      ⟨(some 1), (.alloc .box), [.t 0], none⟩,
      ⟨(some 2), (.pure .mov), [.c (.bool false)], none⟩] false)
    (.seq (.region [
      ⟨(some 3), (.pure (.fadd 11)), [.t 1], none⟩,
      ⟨(some 4), (.pure (.fadd 9)), [.t 3], none⟩,
      ⟨(some 5), (.read (.load 1 false) []), [.t 4], none⟩,
      ⟨(some 6), (.pure .lenStr), [.t 5], none⟩,
      ⟨(some 7), (.pure (.bin .leq)), [.t 6, .c (.int .i64 (Int.ofNat 1000))], none⟩,
      ⟨(some 8), (.pure .mov), [.t 7], none⟩,
      ⟨(some 9), (.pure (.fadd 24)), [.t 1], (some (8, true))⟩,
      ⟨(some 10), (.pure (.fadd 1)), [.t 9], (some (8, true))⟩,
      ⟨(some 11), (.read (.load 1 false) []), [.t 10], (some (8, true))⟩,
      ⟨(some 12), (.pure .lenS), [.t 11], (some (8, true))⟩,
      ⟨(some 13), (.pure (.bin .leq)), [.t 12, .c (.int .i64 (Int.ofNat 40))], (some (8, true))⟩,
      ⟨(some 14), (.pure .pick), [.t 8, .t 13, .c (.bool false)], none⟩,
      ⟨(some 15), (.pure .mov), [.t 14], none⟩,
      ⟨(some 16), (.pure (.fadd 26)), [.t 1], (some (15, true))⟩,
      ⟨(some 17), (.read (.load 1 false) []), [.t 16], (some (15, true))⟩,
      ⟨(some 18), (.pure .lenS), [.t 17], (some (15, true))⟩,
      ⟨(some 19), (.pure (.bin .leq)), [.t 18, .c (.int .i64 (Int.ofNat 40))], (some (15, true))⟩,
      ⟨(some 20), (.pure .pick), [.t 15, .t 19, .c (.bool false)], none⟩,
      ⟨(some 2), (.pure .mov), [.t 20], none⟩] false)
    .ret)), [.tmp 2]⟩
theorem c20 : (match Try.prog.funcs[20]? with | some fn => compileFn Try.prog 0 [] fn | none => none) = some k20 := by kernel_rfl

/-- tompion/tompionref11.First -/
def k21 : DFn := ⟨20, (.seq (.region [
      ⟨(some 2), (.alloc (.alloc [(.int .i64 (Int.ofNat 0)), (.slice none 0 0)])), [], none⟩] false)
    (.seq (.region [
      ⟨(some 5), (.pure (.build [(.int .i64 (Int.ofNat 0)), (.slice none 0 0)] [(0, 1)])), [.c (.int .i64 (Int.ofNat 1))], none⟩,
      ⟨(some 3), (.alloc (.alloc [(.int .i64 (Int.ofNat 0)), (.slice none 0 0)])), [], none⟩,
      ⟨none, (.eff (.store 2)), [.t 3, .t 5], none⟩] false)
    (.seq (.seq (.region [
      ⟨(some 4), (.pure .mov), [.c (.int .i64 (Int.ofNat 0))], none⟩] false)
    (.block 0 (.loop none (.seq (.seq (.region [
      ⟨(some 6), (.pure .mov), [.t 4], none⟩,
      ⟨(some 7), (.pure .mov), [.t 0], none⟩,
      ⟨(some 8), (.pure (.bin .lss)), [.t 6, .t 7], none⟩] false)
    (.cond (.t 8) .skip
    (.exit 0)))
    (.seq (.block 1 (.region [
      ⟨(some 11), (.pure (.fadd 1)), [.t 3], none⟩,
      ⟨(some 12), (.read (.load 1 false) []), [.t 11], none⟩,
      ⟨(some 13), (.pure .mov), [.t 4], none⟩,
      ⟨(some 14), (.pure (.build [(.int .i64 (Int.ofNat 0)), (.int .i64 (Int.ofNat 0))] [(0, 1), (1, 1)])), [.t 13, .c (.int .i64 (Int.ofNat 1))], none⟩,
      ⟨(some 15), (.pure (.build [(.int .i64 (Int.ofNat 0)), (.int .i64 (Int.ofNat 0)), (.bool false)] [(0, 2), (2, 1)])), [.t 14, .c (.bool true)], none⟩,
      ⟨(some 16), (.alloc (.bslice [(.int .i64 (Int.ofNat 0)), (.int .i64 (Int.ofNat 0)), (.bool false)] [(0, 3)] 3 1)), [.t 15], none⟩,
      ⟨(some 17), (.eff (.app 3 24)), [.t 12, .t 16], none⟩,
      ⟨(some 18), (.pure (.fadd 1)), [.t 3], none⟩,
      ⟨none, (.eff (.store 1)), [.t 18, .t 17], none⟩] false))
    (.region [
      ⟨(some 9), (.pure .mov), [.t 4], none⟩,
      ⟨(some 10), (.pure (.bin .add)), [.t 9, .c (.int .i64 (Int.ofNat 1))], none⟩,
      ⟨(some 4), (.pure .mov), [.t 10], none⟩] false))))))
    (.seq (.region [
      ⟨(some 19), (.read (.load 2 true) []), [.t 3], none⟩,
      ⟨none, (.eff (.store 2)), [.t 2, .t 19], none⟩] false)
    .ret)))), [.cell 2 2 true]⟩
theorem c21 : (match Try.prog.funcs[21]? with | some fn => compileFn Try.prog 0 [] fn | none => none) = some k21 := by kernel_rfl

/-- (*tompion/client.Client).ask -/
def k22 : DFn := ⟨130, (.seq (.region [
      ⟨(some 2), (.pure .mov), [.c (.slice none 0 0)], none⟩] false)
    (.seq (.region [
      ⟨(some 11), (.pure .mov), [.t 0], none⟩,
      ⟨(some 12), (.pure .nilchk), [.t 11], none⟩,
      ⟨(some 13), (.pure (.fadd 3)), [.t 12], none⟩,
      ⟨(some 14), (.read (.load 2 true) []), [.t 13], none⟩,
      ⟨(some 15), (.call 32), [.t 14], none⟩,
      ⟨(some 10), (.pure .mov), [.t 15], none⟩,
      ⟨(some 16), (.pure (.extract 0)), [.t 10], none⟩,
      ⟨(some 17), (.pure (.extract 1)), [.t 10], none⟩,
      ⟨(some 3), (.alloc (.alloc [(.int .i64 (Int.ofNat 0)), (.int .i64 (Int.ofNat 0))])), [], none⟩,
      ⟨none, (.eff (.store 2)), [.t 3, .t 16], none⟩,
      ⟨(some 4), (.pure .mov), [.t 17], none⟩] false)
    (.seq (.seq (.region [
      ⟨(some 18), (.pure .mov), [.t 4], none⟩,
      ⟨(some 19), (.pure (.un .not)), [.t 18], none⟩] false)
    (.cond (.t 19) (.seq (.region [
      ⟨(some 20), (.pure .mov), [.t 0], none⟩,
      ⟨(some 21), (.call 30), [.t 20, .c (.int .i64 (Int.ofNat 15)), .c (.int .i64 (Int.ofNat 200))], none⟩,
      ⟨(some 22), (.alloc (.bslice [(.int .i64 (Int.ofNat 0)), (.int .i64 (Int.ofNat 0)), (.int .i64 (Int.ofNat 0)), (.int .i64 (Int.ofNat 0)), (.int .i64 (Int.ofNat 0)), (.int .i64 (Int.ofNat 0)), (.int .i64 (Int.ofNat 0)), (.int .i64 (Int.ofNat 0)), (.int .i64 (Int.ofNat 0)), (.int .i64 (Int.ofNat 0)), (.bool false), (.int .i64 (Int.ofNat 0)), (.int .i64 (Int.ofNat 0)), (.int .i64 (Int.ofNat 0)), (.int .i64 (Int.ofNat 0)), (.int .i64 (Int.ofNat 0)), (.int .i64 (Int.ofNat 0)), (.int .i64 (Int.ofNat 0)), (.int .i64 (Int.ofNat 0)), (.int .i64 (Int.ofNat 0)), (.string ⟨⟨[]⟩⟩), (.int .i64 (Int.ofNat 0)), (.int .i64 (Int.ofNat 0)), (.int .i64 (Int.ofNat 0)), (.int .i64 (Int.ofNat 0)), (.slice none 0 0), (.slice none 0 0), (.int .i64 (Int.ofNat 0))] [(0, 28)] 28 1)), [.t 21], none⟩,
      ⟨(some 2), (.pure .mov), [.t 22], none⟩] false)
    .ret)
    .skip))
    (.seq (.region [
      ⟨(some 23), (.pure .mov), [.t 0], none⟩,
      ⟨(some 24), (.pure .nilchk), [.t 23], none⟩,
      ⟨(some 25), (.pure (.fadd 2)), [.t 24], none⟩,
      ⟨(some 26), (.read (.load 1 false) []), [.t 25], none⟩,
      ⟨(some 27), (.pure .nilchk), [.t 26], none⟩,
      ⟨(some 28), (.pure (.fadd 0)), [.t 27], none⟩,
      ⟨(some 5), (.pure .mov), [.t 28], none⟩] false)
    (.seq (.seq (.region [
      ⟨(some 29), (.pure .mov), [.t 5], none⟩,
      ⟨(some 30), (.pure .nilchk), [.t 29], none⟩,
      ⟨(some 31), (.pure (.fadd 0)), [.t 30], none⟩,
      ⟨(some 32), (.read (.load 1 false) []), [.t 31], none⟩] false)
    (.block 0 (.seq (.region [
      ⟨(some 34), (.pure (.bin .eql)), [.t 32, .c (.int .i64 (Int.ofNat 3))], none⟩,
      ⟨(some 33), (.pure .mov), [.t 34], none⟩] false)
    (.cond (.t 33) (.seq (.region [
      ⟨(some 35), (.pure .mov), [.t 0], none⟩,
      ⟨(some 36), (.pure .nilchk), [.t 35], none⟩,
      ⟨(some 37), (.pure (.fadd 3)), [.t 36], none⟩,
      ⟨(some 38), (.pure (.fadd 1)), [.t 37], none⟩,
      ⟨(some 39), (.read (.load 1 false) []), [.t 38], none⟩,
      ⟨(some 40), (.pure .mov), [.t 5], none⟩,
      ⟨(some 41), (.pure .nilchk), [.t 40], none⟩,
      ⟨(some 42), (.pure (.fadd 3)), [.t 41], none⟩,
      ⟨(some 43), (.read (.load 1 false) []), [.t 42], none⟩,
      ⟨(some 44), (.pure .max), [.t 43, .c (.int .i64 (Int.ofNat 0))], none⟩,
      ⟨(some 45), (.pure .mov), [.t 0], none⟩,
      ⟨(some 46), (.pure .nilchk), [.t 45], none⟩,
      ⟨(some 47), (.pure (.fadd 3)), [.t 46], none⟩,
      ⟨(some 48), (.pure (.fadd 1)), [.t 47], none⟩,
      ⟨(some 49), (.read (.load 1 false) []), [.t 48], none⟩,
      ⟨(some 50), (.pure .lenS), [.t 49], none⟩,
      ⟨(some 51), (.pure (.bin .rem)), [.t 44, .t 50], none⟩,
      ⟨(some 52), (.pure (.iaddS 3)), [.t 39, .t 51], none⟩,
      ⟨(some 53), (.read (.load 3 true) []), [.t 52], none⟩,
      ⟨(some 6), (.alloc (.alloc [(.int .i64 (Int.ofNat 0)), (.int .i64 (Int.ofNat 0)), (.bool false)])), [], none⟩,
      ⟨none, (.eff (.store 3)), [.t 6, .t 53], none⟩] false)
    (.seq (.region [
      ⟨(some 54), (.pure .mov), [.t 0], none⟩,
      ⟨(some 55), (.pure (.fadd 0)), [.t 6], none⟩,
      ⟨(some 56), (.pure (.fadd 0)), [.t 55], none⟩,
      ⟨(some 57), (.read (.load 1 false) []), [.t 56], none⟩,
      ⟨(some 58), (.call 30), [.t 54, .c (.int .i64 (Int.ofNat 9)), .t 57], none⟩,
      ⟨(some 7), (.alloc (.alloc [(.int .i64 (Int.ofNat 0)), (.int .i64 (Int.ofNat 0)), (.int .i64 (Int.ofNat 0)), (.int .i64 (Int.ofNat 0)), (.int .i64 (Int.ofNat 0)), (.int .i64 (Int.ofNat 0)), (.int .i64 (Int.ofNat 0)), (.int .i64 (Int.ofNat 0)), (.int .i64 (Int.ofNat 0)), (.int .i64 (Int.ofNat 0)), (.bool false), (.int .i64 (Int.ofNat 0)), (.int .i64 (Int.ofNat 0)), (.int .i64 (Int.ofNat 0)), (.int .i64 (Int.ofNat 0)), (.int .i64 (Int.ofNat 0)), (.int .i64 (Int.ofNat 0)), (.int .i64 (Int.ofNat 0)), (.int .i64 (Int.ofNat 0)), (.int .i64 (Int.ofNat 0)), (.string ⟨⟨[]⟩⟩), (.int .i64 (Int.ofNat 0)), (.int .i64 (Int.ofNat 0)), (.int .i64 (Int.ofNat 0)), (.int .i64 (Int.ofNat 0)), (.slice none 0 0), (.slice none 0 0), (.int .i64 (Int.ofNat 0))])), [], none⟩,
      ⟨none, (.eff (.store 28)), [.t 7, .t 58], none⟩] false)
    (.seq (.region [
      ⟨(some 59), (.pure .mov), [.t 0], none⟩,
      ⟨(some 60), (.pure .nilchk), [.t 59], none⟩,
      ⟨(some 61), (.pure (.fadd 2)), [.t 60], none⟩,
      ⟨(some 62), (.read (.load 1 false) []), [.t 61], none⟩,
      ⟨(some 63), (.pure .nilchk), [.t 62], none⟩,
      ⟨(some 64), (.pure (.fadd 5)), [.t 63], none⟩,
      ⟨(some 65), (.read (.load 1 false) []), [.t 64], none⟩,
      ⟨(some 66), (.pure .mov), [.t 5], none⟩,
      ⟨(some 67), (.pure .nilchk), [.t 66], none⟩,
      ⟨(some 68), (.pure (.fadd 1)), [.t 67], none⟩,
      ⟨(some 69), (.read (.load 1 false) [13]), [.t 68], none⟩,
      ⟨(some 70), (.pure (.fadd 6)), [.t 7], none⟩,
      ⟨none, (.eff (.store 1)), [.t 70, .t 65], none⟩,
      ⟨(some 71), (.pure (.fadd 8)), [.t 7], none⟩,
      ⟨none, (.eff (.store 1)), [.t 71, .t 69], none⟩] true)
    (.seq (.region [
      ⟨(some 72), (.read (.load 28 true) []), [.t 7], none⟩,
      ⟨(some 73), (.alloc (.bslice [(.int .i64 (Int.ofNat 0)), (.int .i64 (Int.ofNat 0)), (.int .i64 (Int.ofNat 0)), (.int .i64 (Int.ofNat 0)), (.int .i64 (Int.ofNat 0)), (.int .i64 (Int.ofNat 0)), (.int .i64 (Int.ofNat 0)), (.int .i64 (Int.ofNat 0)), (.int .i64 (Int.ofNat 0)), (.int .i64 (Int.ofNat 0)), (.bool false), (.int .i64 (Int.ofNat 0)), (.int .i64 (Int.ofNat 0)), (.int .i64 (Int.ofNat 0)), (.int .i64 (Int.ofNat 0)), (.int .i64 (Int.ofNat 0)), (.int .i64 (Int.ofNat 0)), (.int .i64 (Int.ofNat 0)), (.int .i64 (Int.ofNat 0)), (.int .i64 (Int.ofNat 0)), (.string ⟨⟨[]⟩⟩), (.int .i64 (Int.ofNat 0)), (.int .i64 (Int.ofNat 0)), (.int .i64 (Int.ofNat 0)), (.int .i64 (Int.ofNat 0)), (.slice none 0 0), (.slice none 0 0), (.int .i64 (Int.ofNat 0))] [(0, 28)] 28 1)), [.t 72], none⟩,
      ⟨(some 2), (.pure .mov), [.t 73], none⟩] false)
    .ret))))
    (.seq (.region [
      ⟨(some 75), (.pure (.bin .eql)), [.t 32, .c (.int .i64 (Int.ofNat 1))], none⟩,
      ⟨(some 74), (.pure .mov), [.t 75], none⟩] false)
    (.cond (.t 74) (.seq (.region [
      ⟨(some 76), (.pure .mov), [.t 0], none⟩,
      ⟨(some 77), (.pure (.fadd 0)), [.t 3], none⟩,
      ⟨(some 78), (.read (.load 1 false) []), [.t 77], none⟩,
      ⟨(some 79), (.call 30), [.t 76, .c (.int .i64 (Int.ofNat 7)), .t 78], none⟩,
      ⟨(some 8), (.alloc (.alloc [(.int .i64 (Int.ofNat 0)), (.int .i64 (Int.ofNat 0)), (.int .i64 (Int.ofNat 0)), (.int .i64 (Int.ofNat 0)), (.int .i64 (Int.ofNat 0)), (.int .i64 (Int.ofNat 0)), (.int .i64 (Int.ofNat 0)), (.int .i64 (Int.ofNat 0)), (.int .i64 (Int.ofNat 0)), (.int .i64 (Int.ofNat 0)), (.bool false), (.int .i64 (Int.ofNat 0)), (.int .i64 (Int.ofNat 0)), (.int .i64 (Int.ofNat 0)), (.int .i64 (Int.ofNat 0)), (.int .i64 (Int.ofNat 0)), (.int .i64 (Int.ofNat 0)), (.int .i64 (Int.ofNat 0)), (.int .i64 (Int.ofNat 0)), (.int .i64 (Int.ofNat 0)), (.string ⟨⟨[]⟩⟩), (.int .i64 (Int.ofNat 0)), (.int .i64 (Int.ofNat 0)), (.int .i64 (Int.ofNat 0)), (.int .i64 (Int.ofNat 0)), (.slice none 0 0), (.slice none 0 0), (.int .i64 (Int.ofNat 0))])), [], none⟩,
      ⟨none, (.eff (.store 28)), [.t 8, .t 79], none⟩] false)
    (.seq (.region [
      ⟨(some 80), (.pure .mov), [.t 0], none⟩,
      ⟨(some 81), (.pure .nilchk), [.t 80], none⟩,
      ⟨(some 82), (.pure (.fadd 0)), [.t 81], none⟩,
      ⟨(some 83), (.read (.load 1 false) []), [.t 82], none⟩,
      ⟨(some 84), (.pure .mov), [.t 0], none⟩,
      ⟨(some 85), (.pure .nilchk), [.t 84], none⟩,
      ⟨(some 86), (.pure (.fadd 2)), [.t 85], none⟩,
      ⟨(some 87), (.read (.load 1 false) []), [.t 86], none⟩,
      ⟨(some 88), (.pure .nilchk), [.t 87], none⟩,
      ⟨(some 89), (.pure (.fadd 5)), [.t 88], none⟩,
      ⟨(some 90), (.read (.load 1 false) []), [.t 89], none⟩,
      ⟨(some 91), (.pure .mov), [.t 5], none⟩,
      ⟨(some 92), (.pure .nilchk), [.t 91], none⟩,
      ⟨(some 93), (.pure (.fadd 1)), [.t 92], none⟩,
      ⟨(some 94), (.read (.load 1 false) []), [.t 93], none⟩,
      ⟨(some 95), (.pure .mov), [.t 5], none⟩,
      ⟨(some 96), (.pure .nilchk), [.t 95], none⟩,
      ⟨(some 97), (.pure (.fadd 2)), [.t 96], none⟩,
      ⟨(some 98), (.read (.load 1 false) []), [.t 97], none⟩,
      ⟨(some 99), (.pure .mov), [.t 5], none⟩,
      ⟨(some 100), (.pure .nilchk), [.t 99], none⟩,
      ⟨(some 101), (.pure (.fadd 4)), [.t 100], none⟩,
      ⟨(some 102), (.read (.load 1 false) []), [.t 101], none⟩,
      ⟨(some 103), (.pure (.build [(.int .i64 (Int.ofNat 0)), (.int .i64 (Int.ofNat 0)), (.int .i64 (Int.ofNat 0)), (.int .i64 (Int.ofNat 0)), (.int .i64 (Int.ofNat 0)), (.int .i64 (Int.ofNat 0)), (.int .i64 (Int.ofNat 0)), (.int .i64 (Int.ofNat 0)), (.int .i64 (Int.ofNat 0)), (.string ⟨⟨[]⟩⟩)] [(0, 1), (1, 1), (2, 1), (3, 1), (6, 1), (9, 1)])), [.c (.int .i64 (Int.ofNat 1)), .t 83, .t 90, .t 94, .t 98, .t 102], none⟩,
      ⟨(some 104), (.pure (.fadd 11)), [.t 8], none⟩,
      ⟨none, (.eff (.store 10)), [.t 104, .t 103], none⟩] false)
    (.seq (.region [
      ⟨(some 105), (.read (.load 28 true) []), [.t 8], none⟩,
      ⟨(some 106), (.alloc (.bslice [(.int .i64 (Int.ofNat 0)), (.int .i64 (Int.ofNat 0)), (.int .i64 (Int.ofNat 0)), (.int .i64 (Int.ofNat 0)), (.int .i64 (Int.ofNat 0)), (.int .i64 (Int.ofNat 0)), (.int .i64 (Int.ofNat 0)), (.int .i64 (Int.ofNat 0)), (.int .i64 (Int.ofNat 0)), (.int .i64 (Int.ofNat 0)), (.bool false), (.int .i64 (Int.ofNat 0)), (.int .i64 (Int.ofNat 0)), (.int .i64 (Int.ofNat 0)), (.int .i64 (Int.ofNat 0)), (.int .i64 (Int.ofNat 0)), (.int .i64 (Int.ofNat 0)), (.int .i64 (Int.ofNat 0)), (.int .i64 (Int.ofNat 0)), (.int .i64 (Int.ofNat 0)), (.string ⟨⟨[]⟩⟩), (.int .i64 (Int.ofNat 0)), (.int .i64 (Int.ofNat 0)), (.int .i64 (Int.ofNat 0)), (.int .i64 (Int.ofNat 0)), (.slice none 0 0), (.slice none 0 0), (.int .i64 (Int.ofNat 0))] [(0, 28)] 28 1)), [.t 105], none⟩,
      ⟨(some 2), (.pure .mov), [.t 106], none⟩] false)
    .ret)))
    .skip))))))
    (.seq (.region [
      ⟨(some 107), (.pure .mov), [.t 0], none⟩,
      ⟨(some 108), (.pure (.fadd 0)), [.t 3], none⟩,
      ⟨(some 109), (.read (.load 1 false) []), [.t 108], none⟩,
      ⟨(some 110), (.call 30), [.t 107, .c (.int .i64 (Int.ofNat 7)), .t 109], none⟩,
      ⟨(some 9), (.alloc (.alloc [(.int .i64 (Int.ofNat 0)), (.int .i64 (Int.ofNat 0)), (.int .i64 (Int.ofNat 0)), (.int .i64 (Int.ofNat 0)), (.int .i64 (Int.ofNat 0)), (.int .i64 (Int.ofNat 0)), (.int .i64 (Int.ofNat 0)), (.int .i64 (Int.ofNat 0)), (.int .i64 (Int.ofNat 0)), (.int .i64 (Int.ofNat 0)), (.bool false), (.int .i64 (Int.ofNat 0)), (.int .i64 (Int.ofNat 0)), (.int .i64 (Int.ofNat 0)), (.int .i64 (Int.ofNat 0)), (.int .i64 (Int.ofNat 0)), (.int .i64 (Int.ofNat 0)), (.int .i64 (Int.ofNat 0)), (.int .i64 (Int.ofNat 0)), (.int .i64 (Int.ofNat 0)), (.string ⟨⟨[]⟩⟩), (.int .i64 (Int.ofNat 0)), (.int .i64 (Int.ofNat 0)), (.int .i64 (Int.ofNat 0)), (.int .i64 (Int.ofNat 0)), (.slice none 0 0), (.slice none 0 0), (.int .i64 (Int.ofNat 0))])), [], none⟩,
      ⟨none, (.eff (.store 28)), [.t 9, .t 110], none⟩] false)
    (.seq (.region [
      ⟨(some 111), (.pure .mov), [.t 0], none⟩,
      ⟨(some 112), (.pure .nilchk), [.t 111], none⟩,
      ⟨(some 113), (.pure (.fadd 0)), [.t 112], none⟩,
      ⟨(some 114), (.read (.load 1 false) []), [.t 113], none⟩,
      ⟨(some 115), (.pure .mov), [.t 0], none⟩,
      ⟨(some 116), (.pure .nilchk), [.t 115], none⟩,
      ⟨(some 117), (.pure (.fadd 2)), [.t 116], none⟩,
      ⟨(some 118), (.read (.load 1 false) []), [.t 117], none⟩,
      ⟨(some 119), (.pure .nilchk), [.t 118], none⟩,
      ⟨(some 120), (.pure (.fadd 5)), [.t 119], none⟩,
      ⟨(some 121), (.read (.load 1 false) []), [.t 120], none⟩,
      ⟨(some 122), (.pure .mov), [.t 5], none⟩,
      ⟨(some 123), (.pure .nilchk), [.t 122], none⟩,
      ⟨(some 124), (.pure (.fadd 1)), [.t 123], none⟩,
      ⟨(some 125), (.read (.load 1 false) []), [.t 124], none⟩,
      ⟨(some 126), (.pure (.build [(.int .i64 (Int.ofNat 0)), (.int .i64 (Int.ofNat 0)), (.int .i64 (Int.ofNat 0)), (.int .i64 (Int.ofNat 0)), (.int .i64 (Int.ofNat 0)), (.int .i64 (Int.ofNat 0)), (.int .i64 (Int.ofNat 0)), (.int .i64 (Int.ofNat 0)), (.int .i64 (Int.ofNat 0)), (.string ⟨⟨[]⟩⟩)] [(0, 1), (1, 1), (2, 1), (3, 1)])), [.c (.int .i64 (Int.ofNat 2)), .t 114, .t 121, .t 125], none⟩,
      ⟨(some 127), (.pure (.fadd 11)), [.t 9], none⟩,
      ⟨none, (.eff (.store 10)), [.t 127, .t 126], none⟩] false)
    (.seq (.region [
      ⟨(some 128), (.read (.load 28 true) []), [.t 9], none⟩,
      ⟨(some 129), (.alloc (.bslice [(.int .i64 (Int.ofNat 0)), (.int .i64 (Int.ofNat 0)), (.int .i64 (Int.ofNat 0)), (.int .i64 (Int.ofNat 0)), (.int .i64 (Int.ofNat 0)), (.int .i64 (Int.ofNat 0)), (.int .i64 (Int.ofNat 0)), (.int .i64 (Int.ofNat 0)), (.int .i64 (Int.ofNat 0)), (.int .i64 (Int.ofNat 0)), (.bool false), (.int .i64 (Int.ofNat 0)), (.int .i64 (Int.ofNat 0)), (.int .i64 (Int.ofNat 0)), (.int .i64 (Int.ofNat 0)), (.int .i64 (Int.ofNat 0)), (.int .i64 (Int.ofNat 0)), (.int .i64 (Int.ofNat 0)), (.int .i64 (Int.ofNat 0)), (.int .i64 (Int.ofNat 0)), (.string ⟨⟨[]⟩⟩), (.int .i64 (Int.ofNat 0)), (.int .i64 (Int.ofNat 0)), (.int .i64 (Int.ofNat 0)), (.int .i64 (Int.ofNat 0)), (.slice none 0 0), (.slice none 0 0), (.int .i64 (Int.ofNat 0))] [(0, 28)] 28 1)), [.t 128], none⟩,
      ⟨(some 2), (.pure .mov), [.t 129], none⟩] false)
    .ret)))))))), [.tmp 2]⟩
theorem c22 : (match Try.prog.funcs[22]? with | some fn => compileFn Try.prog 0 [] fn | none => none) = some k22 := by kernel_rfl

/-- tompion/config.Right -/
def k23 : DFn := ⟨57, (.seq (.region [
      ⟨(some 1), (.alloc .box), [.t 0], none⟩,
      ⟨(some 2), (.pure .mov), [.c (.bool false)], none⟩] false)
    (.seq (.region [
      ⟨(some 7), (.pure (.fadd 1)), [.t 1], none⟩,
      ⟨(some 8), (.read (.load 1 false) []), [.t 7], none⟩,
      ⟨(some 9), (.pure .lenS), [.t 8], none⟩,
      ⟨(some 3), (.pure .mov), [.t 9], none⟩] false)
    (.seq (.seq (.region [
      ⟨(some 10), (.pure (.fadd 0)), [.t 1], none⟩,
      ⟨(some 11), (.read (.load 1 false) []), [.t 10], none⟩,
      ⟨(some 12), (.pure (.bin .lss)), [.t 11, .c (.int .i64 (Int.ofNat 1))], none⟩,
      ⟨(some 13), (.pure .mov), [.t 12], none⟩,
      ⟨(some 14), (.pure (.fadd 0)), [.t 1], (some (13, false))⟩,
      ⟨(some 15), (.read (.load 1 false) []), [.t 14], (some (13, false))⟩,
      ⟨(some 16), (.pure (.bin .gtr)), [.t 15, .c (.int .i64 (Int.ofNat 1099511627776))], (some (13, false))⟩,
      ⟨(some 17), (.pure .pick), [.t 13, .c (.bool true), .t 16], none⟩,
      ⟨(some 18), (.pure .mov), [.t 17], none⟩,
      ⟨(some 19), (.pure .mov), [.t 3], (some (18, false))⟩,
      ⟨(some 20), (.pure (.bin .lss)), [.t 19, .c (.int .i64 (Int.ofNat 1))], (some (18, false))⟩,
      ⟨(some 21), (.pure .pick), [.t 18, .c (.bool true), .t 20], none⟩,
      ⟨(some 22), (.pure .mov), [.t 21], none⟩,
      ⟨(some 23), (.pure .mov), [.t 3], (some (22, false))⟩,
      ⟨(some 24), (.pure (.bin .gtr)), [.t 23, .c (.int .i64 (Int.ofNat 8))], (some (22, false))⟩,
      ⟨(some 25), (.pure .pick), [.t 22, .c (.bool true), .t 24], none⟩,
      ⟨(some 26), (.pure .mov), [.t 25], none⟩,
      ⟨(some 27), (.pure (.fadd 1)), [.t 1], (some (26, false))⟩,
      ⟨(some 28), (.read (.load 1 false) []), [.t 27], (some (26, false))⟩,
      ⟨(some 29), (.pure (.iaddS 3)), [.t 28, .c (.int .i64 (Int.ofNat 0))], (some (26, false))⟩,
      ⟨(some 30), (.pure (.fadd 2)), [.t 29], (some (26, false))⟩,
      ⟨(some 31), (.read (.load 1 false) []), [.t 30], (some (26, false))⟩,
      ⟨(some 32), (.pure (.un .not)), [.t 31], (some (26, false))⟩,
      ⟨(some 33), (.pure .pick), [.t 26, .c (.bool true), .t 32], none⟩] false)
    (.cond (.t 33) (.seq (.region [
      ⟨(some 2), (.pure .mov), [.c (.bool false)], none⟩] false)
    .ret)
    .skip))
    (.seq (.region [
      ⟨(some 4), (.alloc (.alloc [(.bool false), (.bool false), (.bool false), (.bool false), (.bool false), (.bool false), (.bool false), (.bool false)])), [], none⟩] false)
    (.seq (.seq (.region [
      ⟨(some 34), (.pure (.fadd 1)), [.t 1], none⟩,
      ⟨(some 35), (.read (.load 1 false) []), [.t 34], none⟩,
      ⟨(some 36), (.pure .lenS), [.t 35], none⟩,
      ⟨(some 37), (.pure .mov), [.c (.int .i64 (Int.ofNat 0))], none⟩] false)
    (.block 0 (.loop none (.seq (.region [
      ⟨(some 38), (.pure (.bin .lss)), [.t 37, .t 36], none⟩] false)
    (.seq (.cond (.t 38) .skip
    (.exit 0))
    (.seq (.block 1 (.seq (.region [
      ⟨(some 39), (.pure (.iaddS 3)), [.t 35, .t 37], none⟩,
      ⟨(some 40), (.read (.load 3 true) []), [.t 39], none⟩,
      ⟨(some 6), (.alloc (.alloc [(.int .i64 (Int.ofNat 0)), (.int .i64 (Int.ofNat 0)), (.bool false)])), [], none⟩,
      ⟨none, (.eff (.store 3)), [.t 6, .t 40], none⟩] false)
    (.seq (.seq (.region [
      ⟨(some 41), (.pure (.fadd 0)), [.t 6], none⟩,
      ⟨(some 42), (.read (.load 2 true) []), [.t 41], none⟩,
      ⟨(some 43), (.call 33), [.t 42], none⟩,
      ⟨(some 44), (.pure (.un .not)), [.t 43], none⟩,
      ⟨(some 45), (.pure .mov), [.t 44], none⟩,
      ⟨(some 46), (.pure (.fadd 0)), [.t 6], (some (45, false))⟩,
      ⟨(some 47), (.pure (.fadd 0)), [.t 46], (some (45, false))⟩,
      ⟨(some 48), (.read (.load 1 false) []), [.t 47], (some (45, false))⟩,
      ⟨(some 49), (.pure (.iaddA 8 1)), [.t 4, .t 48], (some (45, false))⟩,
      ⟨(some 50), (.read (.load 1 false) []), [.t 49], (some (45, false))⟩,
      ⟨(some 51), (.pure .pick), [.t 45, .c (.bool true), .t 50], none⟩] false)
    (.cond (.t 51) (.seq (.region [
      ⟨(some 2), (.pure .mov), [.c (.bool false)], none⟩] false)
    .ret)
    .skip))
    (.region [
      ⟨(some 52), (.pure (.fadd 0)), [.t 6], none⟩,
      ⟨(some 53), (.pure (.fadd 0)), [.t 52], none⟩,
      ⟨(some 54), (.read (.load 1 false) []), [.t 53], none⟩,
      ⟨(some 55), (.pure (.iaddA 8 1)), [.t 4, .t 54], none⟩,
      ⟨none, (.eff (.store 1)), [.t 55, .c (.bool true)], none⟩] false))))
    (.region [
      ⟨(some 56), (.pure (.bin .add)), [.t 37, .c (.int .i64 (Int.ofNat 1))], none⟩,
      ⟨(some 37), (.pure .mov), [.t 56], none⟩] false)))))))
    (.seq (.region [
      ⟨(some 2), (.pure .mov), [.c (.bool true)], none⟩] false)
    .ret)))))), [.tmp 2]⟩
theorem c23 : (match Try.prog.funcs[23]? with | some fn => compileFn Try.prog 0 [] fn | none => none) = some k23 := by kernel_rfl

/-- slices.Clone[[]tompion/api.Seat,tompion/api.Seat] -/
def k24 : DFn := ⟨8, (.seq (.region [
      ⟨(some 2), (.pure .mov), [.c (.slice none 0 0)], none⟩] false)
    (.seq (.seq (.region [
      ⟨(some 3), (.pure .mov), [.t 0], none⟩,
      ⟨(some 4), (.pure (.nilEq false .slice)), [.t 3], none⟩] false)
    (.cond (.t 4) (.seq (.region [
      ⟨(some 2), (.pure .mov), [.c (.slice none 0 0)], none⟩] false)
    .ret)
    .skip))
    (.seq (.region [
      ⟨(some 5), (.alloc (.bslice [] [] 3 0)), [], none⟩,
      ⟨(some 6), (.pure .mov), [.t 0], none⟩,
      ⟨(some 7), (.eff (.app 3 24)), [.t 5, .t 6], none⟩,
      ⟨(some 2), (.pure .mov), [.t 7], none⟩] false)
    .ret))), [.tmp 2]⟩
theorem c24 : (match Try.prog.funcs[24]? with | some fn => compileFn Try.prog 0 [] fn | none => none) = some k24 := by kernel_rfl

/-- (*tompion/client.Client).answers -/
def k25 : DFn := ⟨39, (.seq (.region [
      ⟨(some 4), (.pure .mov), [.c (.bool false)], none⟩] false)
    (.seq (.seq (.region [
      ⟨(some 5), (.pure .mov), [.t 0], none⟩,
      ⟨(some 6), (.pure .nilchk), [.t 5], none⟩,
      ⟨(some 7), (.pure (.fadd 2)), [.t 6], none⟩,
      ⟨(some 8), (.read (.load 1 false) []), [.t 7], none⟩,
      ⟨(some 9), (.pure (.nilEq false .ptr)), [.t 8], none⟩,
      ⟨(some 10), (.pure .mov), [.t 9], none⟩,
      ⟨(some 11), (.pure .mov), [.t 0], (some (10, false))⟩,
      ⟨(some 12), (.pure .nilchk), [.t 11], (some (10, false))⟩,
      ⟨(some 13), (.pure (.fadd 2)), [.t 12], (some (10, false))⟩,
      ⟨(some 14), (.read (.load 1 false) []), [.t 13], (some (10, false))⟩,
      ⟨(some 15), (.pure .nilchk), [.t 14], (some (10, false))⟩,
      ⟨(some 16), (.pure (.fadd 5)), [.t 15], (some (10, false))⟩,
      ⟨(some 17), (.read (.load 1 false) []), [.t 16], (some (10, false))⟩,
      ⟨(some 18), (.pure .mov), [.t 1], (some (10, false))⟩,
      ⟨(some 19), (.pure .nilchk), [.t 18], (some (10, false))⟩,
      ⟨(some 20), (.pure (.fadd 6)), [.t 19], (some (10, false))⟩,
      ⟨(some 21), (.read (.load 1 false) []), [.t 20], (some (10, false))⟩,
      ⟨(some 22), (.pure (.bin .neq)), [.t 17, .t 21], (some (10, false))⟩,
      ⟨(some 23), (.pure .pick), [.t 10, .c (.bool true), .t 22], none⟩] false)
    (.cond (.t 23) (.seq (.region [
      ⟨(some 4), (.pure .mov), [.c (.bool false)], none⟩] false)
    .ret)
    .skip))
    (.seq (.region [
      ⟨(some 24), (.pure .mov), [.t 1], none⟩,
      ⟨(some 25), (.pure .nilchk), [.t 24], none⟩,
      ⟨(some 26), (.pure (.fadd 0)), [.t 25], none⟩,
      ⟨(some 27), (.read (.load 1 false) []), [.t 26], none⟩,
      ⟨(some 28), (.pure (.bin .eql)), [.t 27, .c (.int .i64 (Int.ofNat 10))], none⟩,
      ⟨(some 29), (.pure .mov), [.t 0], none⟩,
      ⟨(some 30), (.pure .nilchk), [.t 29], none⟩,
      ⟨(some 31), (.pure (.fadd 2)), [.t 30], none⟩,
      ⟨(some 32), (.read (.load 1 false) []), [.t 31], none⟩,
      ⟨(some 33), (.pure .nilchk), [.t 32], none⟩,
      ⟨(some 34), (.pure (.fadd 0)), [.t 33], none⟩,
      ⟨(some 35), (.pure (.fadd 0)), [.t 34], none⟩,
      ⟨(some 36), (.read (.load 1 false) []), [.t 35], none⟩,
      ⟨(some 37), (.pure (.bin .eql)), [.t 36, .c (.int .i64 (Int.ofNat 3))], none⟩,
      ⟨(some 38), (.pure (.boolEq false)), [.t 28, .t 37], none⟩,
      ⟨(some 4), (.pure .mov), [.t 38], none⟩] false)
    .ret))), [.tmp 4]⟩
theorem c25 : (match Try.prog.funcs[25]? with | some fn => compileFn Try.prog 0 [] fn | none => none) = some k25 := by kernel_rfl

end Go.Proofs.Ytfflfehfjgkcdaa.D
