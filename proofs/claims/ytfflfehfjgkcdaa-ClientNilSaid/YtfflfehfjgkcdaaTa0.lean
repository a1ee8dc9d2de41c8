/- The compiled functions of the seat, as the machine "D" runs them (written by a program). No statement of the seat is proved in this text. -/
import Derived.Test.YtfflfehfjgkcdaaDx
import Derived.Test.YtfflfehfjgkcdaaProg
set_option maxRecDepth 100000
namespace Go.Proofs.Ytfflfehfjgkcdaa.D
open Go
/-- gosem.cut.init -/
def k2 : DFn := ⟨1, (.region [
      ⟨(some 0), (.call 1), [], none⟩] false), []⟩
theorem c2 : (match Try.prog.funcs[2]? with | some fn => compileFn Try.prog 0 [] fn | none => none) = some k2 := by kernel_rfl

/-- tompion/tompionlaw17.ClientReqs -/
def k3 : DFn := ⟨148, (.seq (.region [
      ⟨(some 4), (.pure .mov), [.c (.bool false)], none⟩] false)
    (.seq (.region [
      ⟨(some 18), (.call 8), [.c (.int .i64 (Int.ofNat 103))], none⟩,
      ⟨(some 17), (.pure .mov), [.t 18], none⟩,
      ⟨(some 19), (.pure (.extract 0)), [.t 17], none⟩,
      ⟨(some 20), (.pure (.extract 1)), [.t 17], none⟩,
      ⟨(some 5), (.pure .mov), [.t 19], none⟩,
      ⟨(some 6), (.pure .mov), [.t 20], none⟩] false)
    (.seq (.seq (.region [
      ⟨(some 21), (.call 9), [], none⟩,
      ⟨(some 22), (.pure (.un .not)), [.t 21], none⟩,
      ⟨(some 23), (.pure .mov), [.t 22], none⟩,
      ⟨(some 24), (.pure .mov), [.t 6], (some (23, false))⟩,
      ⟨(some 25), (.pure (.bin .neq)), [.t 24, .c (.int .i64 (Int.ofNat 0))], (some (23, false))⟩,
      ⟨(some 26), (.pure .pick), [.t 23, .c (.bool true), .t 25], none⟩,
      ⟨(some 27), (.pure .mov), [.t 26], none⟩,
      ⟨(some 28), (.pure .mov), [.t 0], (some (27, false))⟩,
      ⟨(some 29), (.pure .lenS), [.t 28], (some (27, false))⟩,
      ⟨(some 30), (.pure (.bin .gtr)), [.t 29, .c (.int .i64 (Int.ofNat 100))], (some (27, false))⟩,
      ⟨(some 31), (.pure .pick), [.t 27, .c (.bool true), .t 30], none⟩,
      ⟨(some 32), (.pure .mov), [.t 31], none⟩,
      ⟨(some 33), (.pure .mov), [.t 1], (some (32, false))⟩,
      ⟨(some 34), (.pure .lenS), [.t 33], (some (32, false))⟩,
      ⟨(some 35), (.pure (.bin .gtr)), [.t 34, .c (.int .i64 (Int.ofNat 200))], (some (32, false))⟩,
      ⟨(some 36), (.pure .pick), [.t 32, .c (.bool true), .t 35], none⟩] false)
    (.cond (.t 36) (.seq (.region [
      ⟨(some 37), (.call 9), [], none⟩,
      ⟨(some 38), (.pure .mov), [.t 37], none⟩,
      ⟨(some 39), (.pure .mov), [.t 6], (some (38, true))⟩,
      ⟨(some 40), (.pure (.bin .eql)), [.t 39, .c (.int .i64 (Int.ofNat 0))], (some (38, true))⟩,
      ⟨(some 41), (.pure .pick), [.t 38, .t 40, .c (.bool false)], none⟩,
      ⟨(some 4), (.pure .mov), [.t 41], none⟩] false)
    .ret)
    .skip))
    (.seq (.region [
      ⟨(some 7), (.pure .mov), [.c (.int .i64 (Int.ofNat 0))], none⟩] false)
    (.seq (.seq (.region [
      ⟨(some 42), (.pure .mov), [.t 0], none⟩,
      ⟨(some 43), (.pure .lenS), [.t 42], none⟩,
      ⟨(some 44), (.pure .mov), [.c (.int .i64 (Int.ofNat 0))], none⟩] false)
    (.block 0 (.loop none (.seq (.region [
      ⟨(some 45), (.pure (.bin .lss)), [.t 44, .t 43], none⟩] false)
    (.seq (.cond (.t 45) .skip
    (.exit 0))
    (.seq (.block 1 (.seq (.region [
      ⟨(some 46), (.pure .mov), [.t 44], none⟩,
      ⟨(some 47), (.pure (.iaddS 5)), [.t 42, .t 44], none⟩,
      ⟨(some 48), (.read (.load 5 true) []), [.t 47], none⟩,
      ⟨(some 9), (.alloc (.alloc [(.int .i64 (Int.ofNat 0)), (.int .i64 (Int.ofNat 0)), (.int .i64 (Int.ofNat 0)), (.int .i64 (Int.ofNat 0)), (.string ⟨⟨[]⟩⟩)])), [], none⟩,
      ⟨(some 8), (.pure .mov), [.t 46], none⟩,
      ⟨none, (.eff (.store 5)), [.t 9, .t 48], none⟩] false)
    (.seq (.seq (.region [
      ⟨(some 49), (.pure (.fadd 4)), [.t 9], none⟩,
      ⟨(some 50), (.read (.load 1 false) []), [.t 49], none⟩,
      ⟨(some 51), (.pure .lenStr), [.t 50], none⟩,
      ⟨(some 52), (.pure (.bin .gtr)), [.t 51, .c (.int .i64 (Int.ofNat 256))], none⟩,
      ⟨(some 53), (.pure .mov), [.t 52], none⟩,
      ⟨(some 54), (.pure (.fadd 0)), [.t 9], (some (53, false))⟩,
      ⟨(some 55), (.read (.load 1 false) []), [.t 54], (some (53, false))⟩,
      ⟨(some 56), (.pure (.bin .lss)), [.t 55, .c (.int .i64 (Int.ofNat 1))], (some (53, false))⟩,
      ⟨(some 57), (.pure .pick), [.t 53, .c (.bool true), .t 56], none⟩,
      ⟨(some 58), (.pure .mov), [.t 57], none⟩,
      ⟨(some 59), (.pure (.fadd 0)), [.t 9], (some (58, false))⟩,
      ⟨(some 60), (.read (.load 1 false) []), [.t 59], (some (58, false))⟩,
      ⟨(some 61), (.pure (.bin .gtr)), [.t 60, .c (.int .i64 (Int.ofNat 3))], (some (58, false))⟩,
      ⟨(some 62), (.pure .pick), [.t 58, .c (.bool true), .t 61], none⟩] false)
    (.cond (.t 62) (.exit 1)
    .skip))
    (.seq (.seq (.region [
      ⟨(some 64), (.pure .mov), [.t 5], none⟩,
      ⟨(some 65), (.read (.load 5 true) []), [.t 9], none⟩,
      ⟨(some 66), (.call 10), [.t 64, .t 65, .c (.int .i64 (Int.ofNat 0))], none⟩,
      ⟨(some 63), (.pure .mov), [.t 66], none⟩,
      ⟨(some 67), (.pure (.extract 0)), [.t 63], none⟩,
      ⟨(some 68), (.pure (.extract 1)), [.t 63], none⟩,
      ⟨(some 10), (.pure .mov), [.t 67], none⟩,
      ⟨(some 11), (.pure .mov), [.t 68], none⟩] false)
    (.seq (.region [
      ⟨(some 69), (.pure .mov), [.t 11], none⟩,
      ⟨(some 70), (.pure (.bin .neq)), [.t 69, .c (.int .i64 (Int.ofNat 0))], none⟩] false)
    (.cond (.t 70) (.seq (.region [
      ⟨(some 4), (.pure .mov), [.c (.bool false)], none⟩] false)
    .ret)
    .skip)))
    (.seq (.region [
      ⟨(some 71), (.pure .mov), [.t 7], none⟩,
      ⟨(some 72), (.pure (.bin .add)), [.t 71, .c (.int .i64 (Int.ofNat 1))], none⟩,
      ⟨(some 7), (.pure .mov), [.t 72], none⟩] false)
    (.seq (.region [
      ⟨(some 12), (.pure .mov), [.c (.int .i64 (Int.ofNat 8))], none⟩] false)
    (.seq (.seq (.region [
      ⟨(some 73), (.pure (.fadd 0)), [.t 9], none⟩,
      ⟨(some 74), (.read (.load 1 false) []), [.t 73], none⟩,
      ⟨(some 75), (.pure (.bin .eql)), [.t 74, .c (.int .i64 (Int.ofNat 3))], none⟩] false)
    (.cond (.t 75) (.region [
      ⟨(some 12), (.pure .mov), [.c (.int .i64 (Int.ofNat 10))], none⟩] false)
    .skip))
    (.seq (.seq (.region [
      ⟨(some 76), (.pure .mov), [.t 8], none⟩,
      ⟨(some 77), (.pure .mov), [.t 1], none⟩,
      ⟨(some 78), (.pure .lenS), [.t 77], none⟩,
      ⟨(some 79), (.pure (.bin .lss)), [.t 76, .t 78], none⟩] false)
    (.cond (.t 79) (.seq (.region [
      ⟨(some 80), (.pure .mov), [.t 5], none⟩,
      ⟨(some 81), (.pure .mov), [.t 12], none⟩,
      ⟨(some 82), (.pure .mov), [.t 7], none⟩,
      ⟨(some 83), (.pure (.bin .add)), [.t 82, .c (.int .i64 (Int.ofNat 1))], none⟩,
      ⟨(some 84), (.pure .mov), [.t 1], none⟩,
      ⟨(some 85), (.pure .mov), [.t 8], none⟩,
      ⟨(some 86), (.pure (.iaddS 1)), [.t 84, .t 85], none⟩,
      ⟨(some 87), (.read (.load 1 false) []), [.t 86], none⟩,
      ⟨(some 88), (.pure (.conv .i64)), [.t 87], none⟩,
      ⟨(some 89), (.pure (.bin .add)), [.t 83, .t 88], none⟩,
      ⟨(some 90), (.pure (.build [(.int .i64 (Int.ofNat 0)), (.int .i64 (Int.ofNat 0)), (.int .i64 (Int.ofNat 0)), (.int .i64 (Int.ofNat 0)), (.int .i64 (Int.ofNat 0)), (.int .i64 (Int.ofNat 0)), (.int .i64 (Int.ofNat 0)), (.int .i64 (Int.ofNat 0)), (.int .i64 (Int.ofNat 0)), (.int .i64 (Int.ofNat 0)), (.bool false), (.int .i64 (Int.ofNat 0)), (.int .i64 (Int.ofNat 0)), (.int .i64 (Int.ofNat 0)), (.int .i64 (Int.ofNat 0)), (.int .i64 (Int.ofNat 0)), (.int .i64 (Int.ofNat 0)), (.int .i64 (Int.ofNat 0)), (.int .i64 (Int.ofNat 0)), (.int .i64 (Int.ofNat 0)), (.string ⟨⟨[]⟩⟩), (.int .i64 (Int.ofNat 0)), (.int .i64 (Int.ofNat 0)), (.int .i64 (Int.ofNat 0)), (.int .i64 (Int.ofNat 0)), (.slice none 0 0), (.slice none 0 0), (.int .i64 (Int.ofNat 0))] [(0, 1), (1, 1), (6, 1)])), [.t 81, .c (.int .i64 (Int.ofNat 103)), .t 89], none⟩,
      ⟨(some 91), (.call 11), [.t 80, .t 90, .c (.int .i64 (Int.ofNat 0))], none⟩] false)
    (.region [
      ⟨(some 92), (.pure .mov), [.t 5], none⟩,
      ⟨(some 93), (.pure .mov), [.t 12], none⟩,
      ⟨(some 94), (.pure .mov), [.t 7], none⟩,
      ⟨(some 95), (.pure (.bin .sub)), [.t 94, .c (.int .i64 (Int.ofNat 1))], none⟩,
      ⟨(some 96), (.pure .mov), [.t 1], none⟩,
      ⟨(some 97), (.pure .mov), [.t 8], none⟩,
      ⟨(some 98), (.pure (.iaddS 1)), [.t 96, .t 97], none⟩,
      ⟨(some 99), (.read (.load 1 false) []), [.t 98], none⟩,
      ⟨(some 100), (.pure (.conv .i64)), [.t 99], none⟩,
      ⟨(some 101), (.pure (.bin .sub)), [.t 95, .t 100], none⟩,
      ⟨(some 102), (.pure (.build [(.int .i64 (Int.ofNat 0)), (.int .i64 (Int.ofNat 0)), (.int .i64 (Int.ofNat 0)), (.int .i64 (Int.ofNat 0)), (.int .i64 (Int.ofNat 0)), (.int .i64 (Int.ofNat 0)), (.int .i64 (Int.ofNat 0)), (.int .i64 (Int.ofNat 0)), (.int .i64 (Int.ofNat 0)), (.int .i64 (Int.ofNat 0)), (.bool false), (.int .i64 (Int.ofNat 0)), (.int .i64 (Int.ofNat 0)), (.int .i64 (Int.ofNat 0)), (.int .i64 (Int.ofNat 0)), (.int .i64 (Int.ofNat 0)), (.int .i64 (Int.ofNat 0)), (.int .i64 (Int.ofNat 0)), (.int .i64 (Int.ofNat 0)), (.int .i64 (Int.ofNat 0)), (.string ⟨⟨[]⟩⟩), (.int .i64 (Int.ofNat 0)), (.int .i64 (Int.ofNat 0)), (.int .i64 (Int.ofNat 0)), (.int .i64 (Int.ofNat 0)), (.slice none 0 0), (.slice none 0 0), (.int .i64 (Int.ofNat 0))] [(0, 1), (1, 1), (6, 1)])), [.t 93, .c (.int .i64 (Int.ofNat 103)), .t 101], none⟩,
      ⟨(some 103), (.call 11), [.t 92, .t 102, .c (.int .i64 (Int.ofNat 0))], none⟩] false))
    .skip))
    (.seq (.seq (.region [
      ⟨(some 105), (.pure .mov), [.t 5], none⟩,
      ⟨(some 106), (.call 12), [.t 105], none⟩,
      ⟨(some 104), (.pure .mov), [.t 106], none⟩,
      ⟨(some 107), (.pure (.extract 0)), [.t 104], none⟩,
      ⟨(some 108), (.pure (.extract 1)), [.t 104], none⟩,
      ⟨(some 13), (.pure .mov), [.t 107], none⟩,
      ⟨(some 14), (.pure .mov), [.t 108], none⟩] false)
    (.seq (.region [
      ⟨(some 109), (.pure .mov), [.t 13], none⟩,
      ⟨(some 110), (.pure .mov), [.t 7], none⟩,
      ⟨(some 111), (.pure (.bin .neq)), [.t 109, .t 110], none⟩,
      ⟨(some 112), (.pure .mov), [.t 111], none⟩,
      ⟨(some 113), (.pure .mov), [.t 14], (some (112, false))⟩,
      ⟨(some 114), (.pure (.un .not)), [.t 113], (some (112, false))⟩,
      ⟨(some 115), (.pure .pick), [.t 112, .c (.bool true), .t 114], none⟩] false)
    (.cond (.t 115) (.seq (.region [
      ⟨(some 4), (.pure .mov), [.c (.bool false)], none⟩] false)
    .ret)
    .skip)))
    (.seq (.region [
      ⟨(some 116), (.pure .mov), [.t 5], none⟩,
      ⟨(some 117), (.pure .mov), [.t 12], none⟩,
      ⟨(some 118), (.pure .mov), [.t 7], none⟩,
      ⟨(some 119), (.pure .mov), [.t 8], none⟩,
      ⟨(some 120), (.pure (.build [(.int .i64 (Int.ofNat 0)), (.int .i64 (Int.ofNat 0)), (.int .i64 (Int.ofNat 0)), (.int .i64 (Int.ofNat 0)), (.int .i64 (Int.ofNat 0)), (.int .i64 (Int.ofNat 0)), (.int .i64 (Int.ofNat 0)), (.int .i64 (Int.ofNat 0)), (.int .i64 (Int.ofNat 0)), (.int .i64 (Int.ofNat 0)), (.bool false), (.int .i64 (Int.ofNat 0)), (.int .i64 (Int.ofNat 0)), (.int .i64 (Int.ofNat 0)), (.int .i64 (Int.ofNat 0)), (.int .i64 (Int.ofNat 0)), (.int .i64 (Int.ofNat 0)), (.int .i64 (Int.ofNat 0)), (.int .i64 (Int.ofNat 0)), (.int .i64 (Int.ofNat 0)), (.string ⟨⟨[]⟩⟩), (.int .i64 (Int.ofNat 0)), (.int .i64 (Int.ofNat 0)), (.int .i64 (Int.ofNat 0)), (.int .i64 (Int.ofNat 0)), (.slice none 0 0), (.slice none 0 0), (.int .i64 (Int.ofNat 0))] [(0, 1), (1, 1), (6, 1), (5, 1)])), [.t 117, .c (.int .i64 (Int.ofNat 103)), .t 118, .t 119], none⟩,
      ⟨(some 121), (.call 11), [.t 116, .t 120, .c (.int .i64 (Int.ofNat 0))], none⟩] false)
    (.seq (.region [
      ⟨(some 123), (.pure .mov), [.t 5], none⟩,
      ⟨(some 124), (.call 13), [.t 123], none⟩,
      ⟨(some 122), (.pure .mov), [.t 124], none⟩,
      ⟨(some 125), (.pure (.extract 0)), [.t 122], none⟩,
      ⟨(some 126), (.pure (.extract 1)), [.t 122], none⟩,
      ⟨(some 15), (.alloc (.alloc [(.int .i64 (Int.ofNat 0)), (.int .i64 (Int.ofNat 0)), (.int .i64 (Int.ofNat 0)), (.int .i64 (Int.ofNat 0)), (.int .i64 (Int.ofNat 0)), (.int .i64 (Int.ofNat 0)), (.int .i64 (Int.ofNat 0)), (.int .i64 (Int.ofNat 0)), (.string ⟨⟨[]⟩⟩), (.int .i64 (Int.ofNat 0)), (.int .i64 (Int.ofNat 0)), (.int .i64 (Int.ofNat 0)), (.int .i64 (Int.ofNat 0))])), [], none⟩,
      ⟨none, (.eff (.store 13)), [.t 15, .t 125], none⟩,
      ⟨(some 16), (.pure .mov), [.t 126], none⟩] false)
    (.seq (.region [
      ⟨(some 127), (.pure .mov), [.t 16], none⟩,
      ⟨(some 128), (.pure (.un .not)), [.t 127], none⟩,
      ⟨(some 129), (.pure .mov), [.t 128], none⟩,
      ⟨(some 130), (.pure (.fadd 1)), [.t 15], (some (129, false))⟩,
      ⟨(some 131), (.read (.load 1 false) []), [.t 130], (some (129, false))⟩,
      ⟨(some 132), (.pure .mov), [.t 7], (some (129, false))⟩,
      ⟨(some 133), (.pure (.bin .neq)), [.t 131, .t 132], (some (129, false))⟩,
      ⟨(some 134), (.pure .pick), [.t 129, .c (.bool true), .t 133], none⟩,
      ⟨(some 135), (.pure .mov), [.t 134], none⟩,
      ⟨(some 136), (.pure (.fadd 12)), [.t 15], (some (135, false))⟩,
      ⟨(some 137), (.read (.load 1 false) []), [.t 136], (some (135, false))⟩,
      ⟨(some 138), (.pure .mov), [.t 8], (some (135, false))⟩,
      ⟨(some 139), (.pure (.bin .neq)), [.t 137, .t 138], (some (135, false))⟩,
      ⟨(some 140), (.pure .pick), [.t 135, .c (.bool true), .t 139], none⟩,
      ⟨(some 141), (.pure .mov), [.t 140], none⟩,
      ⟨(some 142), (.pure (.fadd 4)), [.t 15], (some (141, false))⟩,
      ⟨(some 143), (.read (.load 5 true) []), [.t 142], (some (141, false))⟩,
      ⟨(some 144), (.read (.load 5 true) []), [.t 9], (some (141, false))⟩,
      ⟨(some 145), (.pure (.aggEq true [.i, .i, .i, .i, .s])), [.t 143, .t 144], (some (141, false))⟩,
      ⟨(some 146), (.pure .pick), [.t 141, .c (.bool true), .t 145], none⟩] false)
    (.cond (.t 146) (.seq (.region [
      ⟨(some 4), (.pure .mov), [.c (.bool false)], none⟩] false)
    .ret)
    .skip)))))))))))))
    (.region [
      ⟨(some 147), (.pure (.bin .add)), [.t 44, .c (.int .i64 (Int.ofNat 1))], none⟩,
      ⟨(some 44), (.pure .mov), [.t 147], none⟩] false)))))))
    (.seq (.region [
      ⟨(some 4), (.pure .mov), [.c (.bool true)], none⟩] false)
    .ret)))))), [.tmp 4]⟩
theorem c3 : (match Try.prog.funcs[3]? with | some fn => compileFn Try.prog 0 [] fn | none => none) = some k3 := by kernel_rfl

/-- tompion/tompionlaw17.ClientCursor -/
def k4 : DFn := ⟨158, (.seq (.region [
      ⟨(some 4), (.pure .mov), [.c (.bool false)], none⟩] false)
    (.seq (.region [
      ⟨(some 24), (.call 8), [.c (.int .i64 (Int.ofNat 100))], none⟩,
      ⟨(some 23), (.pure .mov), [.t 24], none⟩,
      ⟨(some 25), (.pure (.extract 0)), [.t 23], none⟩,
      ⟨(some 26), (.pure (.extract 1)), [.t 23], none⟩,
      ⟨(some 5), (.pure .mov), [.t 25], none⟩,
      ⟨(some 6), (.pure .mov), [.t 26], none⟩] false)
    (.seq (.seq (.region [
      ⟨(some 27), (.call 9), [], none⟩,
      ⟨(some 28), (.pure (.un .not)), [.t 27], none⟩,
      ⟨(some 29), (.pure .mov), [.t 28], none⟩,
      ⟨(some 30), (.pure .mov), [.t 6], (some (29, false))⟩,
      ⟨(some 31), (.pure (.bin .neq)), [.t 30, .c (.int .i64 (Int.ofNat 0))], (some (29, false))⟩,
      ⟨(some 32), (.pure .pick), [.t 29, .c (.bool true), .t 31], none⟩,
      ⟨(some 33), (.pure .mov), [.t 32], none⟩,
      ⟨(some 34), (.pure .mov), [.t 0], (some (33, false))⟩,
      ⟨(some 35), (.pure .lenS), [.t 34], (some (33, false))⟩,
      ⟨(some 36), (.pure (.bin .gtr)), [.t 35, .c (.int .i64 (Int.ofNat 40))], (some (33, false))⟩,
      ⟨(some 37), (.pure .pick), [.t 33, .c (.bool true), .t 36], none⟩,
      ⟨(some 38), (.pure .mov), [.t 37], none⟩,
      ⟨(some 39), (.pure .mov), [.t 1], (some (38, false))⟩,
      ⟨(some 40), (.pure .lenS), [.t 39], (some (38, false))⟩,
      ⟨(some 41), (.pure (.bin .gtr)), [.t 40, .c (.int .i64 (Int.ofNat 100))], (some (38, false))⟩,
      ⟨(some 42), (.pure .pick), [.t 38, .c (.bool true), .t 41], none⟩] false)
    (.cond (.t 42) (.seq (.region [
      ⟨(some 43), (.call 9), [], none⟩,
      ⟨(some 44), (.pure .mov), [.t 43], none⟩,
      ⟨(some 45), (.pure .mov), [.t 6], (some (44, true))⟩,
      ⟨(some 46), (.pure (.bin .eql)), [.t 45, .c (.int .i64 (Int.ofNat 0))], (some (44, true))⟩,
      ⟨(some 47), (.pure .pick), [.t 44, .t 46, .c (.bool false)], none⟩,
      ⟨(some 4), (.pure .mov), [.t 47], none⟩] false)
    .ret)
    .skip))
    (.seq (.region [
      ⟨(some 7), (.pure .mov), [.c (.slice none 0 0)], none⟩] false)
    (.seq (.seq (.region [
      ⟨(some 48), (.pure .mov), [.t 0], none⟩,
      ⟨(some 49), (.pure .lenS), [.t 48], none⟩,
      ⟨(some 50), (.pure .mov), [.c (.int .i64 (Int.ofNat 0))], none⟩] false)
    (.block 0 (.loop none (.seq (.region [
      ⟨(some 51), (.pure (.bin .lss)), [.t 50, .t 49], none⟩] false)
    (.seq (.cond (.t 51) .skip
    (.exit 0))
    (.seq (.block 1 (.seq (.region [
      ⟨(some 52), (.pure .mov), [.t 50], none⟩,
      ⟨(some 53), (.pure (.iaddS 6)), [.t 48, .t 50], none⟩,
      ⟨(some 54), (.read (.load 6 true) []), [.t 53], none⟩,
      ⟨(some 9), (.alloc (.alloc [(.int .i64 (Int.ofNat 0)), (.int .i64 (Int.ofNat 0)), (.int .i64 (Int.ofNat 0)), (.int .i64 (Int.ofNat 0)), (.int .i64 (Int.ofNat 0)), (.int .i64 (Int.ofNat 0))])), [], none⟩,
      ⟨(some 8), (.pure .mov), [.t 52], none⟩,
      ⟨none, (.eff (.store 6)), [.t 9, .t 54], none⟩] false)
    (.seq (.region [
      ⟨(some 55), (.pure .mov), [.t 8], none⟩,
      ⟨(some 56), (.pure (.bin .mul)), [.c (.int .i64 (Int.ofNat 3)), .t 55], none⟩,
      ⟨(some 57), (.pure (.bin .add)), [.t 56, .c (.int .i64 (Int.ofNat 2))], none⟩,
      ⟨(some 58), (.pure (.fadd 1)), [.t 9], none⟩,
      ⟨(some 59), (.read (.load 1 false) []), [.t 58], none⟩,
      ⟨(some 60), (.pure (.bin .and)), [.t 59, .c (.int .i64 (Int.ofNat 1))], none⟩,
      ⟨(some 61), (.pure (.bin .add)), [.c (.int .i64 (Int.ofNat 100)), .t 60], none⟩,
      ⟨(some 62), (.pure (.fadd 0)), [.t 9], none⟩,
      ⟨none, (.eff (.store 1)), [.t 62, .t 57], none⟩,
      ⟨(some 63), (.pure (.fadd 1)), [.t 9], none⟩,
      ⟨none, (.eff (.store 1)), [.t 63, .t 61], none⟩] false)
    (.region [
      ⟨(some 64), (.pure .mov), [.t 7], none⟩,
      ⟨(some 65), (.read (.load 6 true) []), [.t 9], none⟩,
      ⟨(some 66), (.alloc (.bslice [(.int .i64 (Int.ofNat 0)), (.int .i64 (Int.ofNat 0)), (.int .i64 (Int.ofNat 0)), (.int .i64 (Int.ofNat 0)), (.int .i64 (Int.ofNat 0)), (.int .i64 (Int.ofNat 0))] [(0, 6)] 6 1)), [.t 65], none⟩,
      ⟨(some 67), (.eff (.app 6 48)), [.t 64, .t 66], none⟩,
      ⟨(some 7), (.pure .mov), [.t 67], none⟩] false))))
    (.region [
      ⟨(some 68), (.pure (.bin .add)), [.t 50, .c (.int .i64 (Int.ofNat 1))], none⟩,
      ⟨(some 50), (.pure .mov), [.t 68], none⟩] false)))))))
    (.seq (.seq (.region [
      ⟨(some 69), (.pure .mov), [.t 1], none⟩,
      ⟨(some 70), (.pure .lenS), [.t 69], none⟩,
      ⟨(some 71), (.pure .mov), [.c (.int .i64 (Int.ofNat 0))], none⟩] false)
    (.block 2 (.loop none (.seq (.region [
      ⟨(some 72), (.pure (.bin .lss)), [.t 71, .t 70], none⟩] false)
    (.seq (.cond (.t 72) .skip
    (.exit 2))
    (.seq (.block 3 (.seq (.region [
      ⟨(some 73), (.pure (.iaddS 1)), [.t 69, .t 71], none⟩,
      ⟨(some 74), (.read (.load 1 false) []), [.t 73], none⟩,
      ⟨(some 11), (.pure .mov), [.t 74], none⟩] false)
    (.seq (.region [
      ⟨(some 75), (.pure .mov), [.t 5], none⟩,
      ⟨(some 76), (.call 14), [.t 75], none⟩,
      ⟨(some 12), (.pure .mov), [.t 76], none⟩] false)
    (.seq (.region [
      ⟨(some 77), (.pure .mov), [.t 12], none⟩,
      ⟨(some 78), (.pure .mov), [.t 11], none⟩,
      ⟨(some 79), (.pure (.conv .i64)), [.t 78], none⟩,
      ⟨(some 80), (.pure (.bin .rem)), [.t 79, .c (.int .i64 (Int.ofNat 20))], none⟩,
      ⟨(some 81), (.pure (.bin .add)), [.t 77, .t 80], none⟩,
      ⟨(some 13), (.pure .mov), [.t 81], none⟩] false)
    (.seq (.region [
      ⟨(some 82), (.pure .mov), [.t 13], none⟩,
      ⟨(some 83), (.pure (.build [(.int .i64 (Int.ofNat 0)), (.int .i64 (Int.ofNat 0)), (.int .i64 (Int.ofNat 0)), (.int .i64 (Int.ofNat 0)), (.int .i64 (Int.ofNat 0)), (.int .i64 (Int.ofNat 0)), (.int .i64 (Int.ofNat 0)), (.int .i64 (Int.ofNat 0)), (.int .i64 (Int.ofNat 0)), (.int .i64 (Int.ofNat 0)), (.bool false), (.int .i64 (Int.ofNat 0)), (.int .i64 (Int.ofNat 0)), (.int .i64 (Int.ofNat 0)), (.int .i64 (Int.ofNat 0)), (.int .i64 (Int.ofNat 0)), (.int .i64 (Int.ofNat 0)), (.int .i64 (Int.ofNat 0)), (.int .i64 (Int.ofNat 0)), (.int .i64 (Int.ofNat 0)), (.string ⟨⟨[]⟩⟩), (.int .i64 (Int.ofNat 0)), (.int .i64 (Int.ofNat 0)), (.int .i64 (Int.ofNat 0)), (.int .i64 (Int.ofNat 0)), (.slice none 0 0), (.slice none 0 0), (.int .i64 (Int.ofNat 0))] [(0, 1), (1, 1), (5, 1)])), [.c (.int .i64 (Int.ofNat 14)), .c (.int .i64 (Int.ofNat 100)), .t 82], none⟩,
      ⟨(some 14), (.alloc (.alloc [(.int .i64 (Int.ofNat 0)), (.int .i64 (Int.ofNat 0)), (.int .i64 (Int.ofNat 0)), (.int .i64 (Int.ofNat 0)), (.int .i64 (Int.ofNat 0)), (.int .i64 (Int.ofNat 0)), (.int .i64 (Int.ofNat 0)), (.int .i64 (Int.ofNat 0)), (.int .i64 (Int.ofNat 0)), (.int .i64 (Int.ofNat 0)), (.bool false), (.int .i64 (Int.ofNat 0)), (.int .i64 (Int.ofNat 0)), (.int .i64 (Int.ofNat 0)), (.int .i64 (Int.ofNat 0)), (.int .i64 (Int.ofNat 0)), (.int .i64 (Int.ofNat 0)), (.int .i64 (Int.ofNat 0)), (.int .i64 (Int.ofNat 0)), (.int .i64 (Int.ofNat 0)), (.string ⟨⟨[]⟩⟩), (.int .i64 (Int.ofNat 0)), (.int .i64 (Int.ofNat 0)), (.int .i64 (Int.ofNat 0)), (.int .i64 (Int.ofNat 0)), (.slice none 0 0), (.slice none 0 0), (.int .i64 (Int.ofNat 0))])), [], none⟩,
      ⟨none, (.eff (.store 28)), [.t 14, .t 83], none⟩] false)
    (.seq (.seq (.region [
      ⟨(some 84), (.pure .mov), [.t 11], none⟩,
      ⟨(some 85), (.pure (.bin .gtr)), [.t 84, .c (.int .u8 (Int.ofNat 200))], none⟩] false)
    (.cond (.t 85) (.region [
      ⟨(some 86), (.pure (.fadd 5)), [.t 14], none⟩,
      ⟨none, (.eff (.store 1)), [.t 86, .c (.int .i64 (Int.ofNat 0))], none⟩] false)
    .skip))
    (.seq (.seq (.region [
      ⟨(some 87), (.pure .mov), [.t 7], none⟩,
      ⟨(some 88), (.pure .lenS), [.t 87], none⟩,
      ⟨(some 89), (.pure .mov), [.c (.int .i64 (Int.ofNat 0))], none⟩] false)
    (.block 4 (.loop none (.seq (.region [
      ⟨(some 90), (.pure (.bin .lss)), [.t 89, .t 88], none⟩] false)
    (.seq (.cond (.t 90) .skip
    (.exit 4))
    (.seq (.block 5 (.seq (.region [
      ⟨(some 91), (.pure (.iaddS 6)), [.t 87, .t 89], none⟩,
      ⟨(some 92), (.read (.load 6 true) []), [.t 91], none⟩,
      ⟨(some 16), (.alloc (.alloc [(.int .i64 (Int.ofNat 0)), (.int .i64 (Int.ofNat 0)), (.int .i64 (Int.ofNat 0)), (.int .i64 (Int.ofNat 0)), (.int .i64 (Int.ofNat 0)), (.int .i64 (Int.ofNat 0))])), [], none⟩,
      ⟨none, (.eff (.store 6)), [.t 16, .t 92], none⟩] false)
    (.seq (.region [
      ⟨(some 93), (.pure (.fadd 0)), [.t 16], none⟩,
      ⟨(some 94), (.read (.load 1 false) []), [.t 93], none⟩,
      ⟨(some 95), (.pure .mov), [.t 13], none⟩,
      ⟨(some 96), (.pure (.bin .leq)), [.t 94, .t 95], none⟩,
      ⟨(some 97), (.pure .mov), [.t 96], none⟩,
      ⟨(some 98), (.pure (.fadd 0)), [.t 16], (some (97, true))⟩,
      ⟨(some 99), (.read (.load 1 false) []), [.t 98], (some (97, true))⟩,
      ⟨(some 100), (.pure .mov), [.t 12], (some (97, true))⟩,
      ⟨(some 101), (.pure (.bin .gtr)), [.t 99, .t 100], (some (97, true))⟩,
      ⟨(some 102), (.pure .mov), [.t 101], (some (97, true))⟩,
      ⟨(some 103), (.pure .mov), [.t 11], (some (102, false))⟩,
      ⟨(some 104), (.pure (.bin .rem)), [.t 103, .c (.int .u8 (Int.ofNat 3))], (some (102, false))⟩,
      ⟨(some 105), (.pure (.bin .eql)), [.t 104, .c (.int .u8 (Int.ofNat 0))], (some (102, false))⟩,
      ⟨(some 106), (.pure .pick), [.t 102, .c (.bool true), .t 105], (some (97, true))⟩,
      ⟨(some 107), (.pure .pick), [.t 97, .t 106, .c (.bool false)], none⟩,
      ⟨(some 108), (.pure .mov), [.t 107], none⟩,
      ⟨(some 109), (.pure (.fadd 1)), [.t 16], (some (108, true))⟩,
      ⟨(some 110), (.read (.load 1 false) []), [.t 109], (some (108, true))⟩,
      ⟨(some 111), (.pure (.bin .eql)), [.t 110, .c (.int .i64 (Int.ofNat 100))], (some (108, true))⟩,
      ⟨(some 112), (.pure .pick), [.t 108, .t 111, .c (.bool false)], none⟩] false)
    (.cond (.t 112) (.region [
      ⟨(some 113), (.pure (.fadd 26)), [.t 14], none⟩,
      ⟨(some 114), (.read (.load 1 false) []), [.t 113], none⟩,
      ⟨(some 115), (.read (.load 6 true) []), [.t 16], none⟩,
      ⟨(some 116), (.alloc (.bslice [(.int .i64 (Int.ofNat 0)), (.int .i64 (Int.ofNat 0)), (.int .i64 (Int.ofNat 0)), (.int .i64 (Int.ofNat 0)), (.int .i64 (Int.ofNat 0)), (.int .i64 (Int.ofNat 0))] [(0, 6)] 6 1)), [.t 115], none⟩,
      ⟨(some 117), (.eff (.app 6 48)), [.t 114, .t 116], none⟩,
      ⟨(some 118), (.pure (.fadd 26)), [.t 14], none⟩,
      ⟨none, (.eff (.store 1)), [.t 118, .t 117], none⟩] false)
    .skip))))
    (.region [
      ⟨(some 119), (.pure (.bin .add)), [.t 89, .c (.int .i64 (Int.ofNat 1))], none⟩,
      ⟨(some 89), (.pure .mov), [.t 119], none⟩] false)))))))
    (.seq (.region [
      ⟨(some 120), (.pure .mov), [.t 5], none⟩,
      ⟨(some 121), (.read (.load 28 true) []), [.t 14], none⟩,
      ⟨(some 122), (.call 11), [.t 120, .t 121, .c (.int .i64 (Int.ofNat 0))], none⟩] false)
    (.seq (.region [
      ⟨(some 123), (.pure .mov), [.t 5], none⟩,
      ⟨(some 124), (.call 15), [.t 123], none⟩,
      ⟨(some 17), (.pure .mov), [.t 124], none⟩] false)
    (.seq (.region [
      ⟨(some 125), (.pure .mov), [.t 7], none⟩,
      ⟨(some 126), (.pure .lenS), [.t 125], none⟩,
      ⟨(some 127), (.pure .mov), [.c (.int .i64 (Int.ofNat 0))], none⟩] false)
    (.block 6 (.loop none (.seq (.region [
      ⟨(some 128), (.pure (.bin .lss)), [.t 127, .t 126], none⟩] false)
    (.seq (.cond (.t 128) .skip
    (.exit 6))
    (.seq (.block 7 (.seq (.region [
      ⟨(some 129), (.pure (.iaddS 6)), [.t 125, .t 127], none⟩,
      ⟨(some 130), (.read (.load 6 true) []), [.t 129], none⟩,
      ⟨(some 19), (.alloc (.alloc [(.int .i64 (Int.ofNat 0)), (.int .i64 (Int.ofNat 0)), (.int .i64 (Int.ofNat 0)), (.int .i64 (Int.ofNat 0)), (.int .i64 (Int.ofNat 0)), (.int .i64 (Int.ofNat 0))])), [], none⟩,
      ⟨none, (.eff (.store 6)), [.t 19, .t 130], none⟩] false)
    (.seq (.seq (.region [
      ⟨(some 131), (.pure (.fadd 1)), [.t 19], none⟩,
      ⟨(some 132), (.read (.load 1 false) []), [.t 131], none⟩,
      ⟨(some 133), (.pure (.bin .neq)), [.t 132, .c (.int .i64 (Int.ofNat 100))], none⟩,
      ⟨(some 134), (.pure .mov), [.t 133], none⟩,
      ⟨(some 135), (.pure (.fadd 0)), [.t 19], (some (134, false))⟩,
      ⟨(some 136), (.read (.load 1 false) [8]), [.t 135], (some (134, false))⟩,
      ⟨(some 137), (.pure .mov), [.t 5], (some (134, false))⟩,
      ⟨(some 138), (.call 14), [.t 137], (some (134, false))⟩,
      ⟨(some 139), (.pure (.bin .gtr)), [.t 136, .t 138], (some (134, false))⟩,
      ⟨(some 140), (.pure .pick), [.t 134, .c (.bool true), .t 139], none⟩] true)
    (.cond (.t 140) (.exit 7)
    .skip))
    (.seq (.region [
      ⟨(some 20), (.pure .mov), [.c (.bool false)], none⟩] false)
    (.seq (.seq (.region [
      ⟨(some 141), (.pure .mov), [.t 17], none⟩,
      ⟨(some 142), (.pure .lenS), [.t 141], none⟩,
      ⟨(some 143), (.pure .mov), [.c (.int .i64 (Int.ofNat 0))], none⟩] false)
    (.block 8 (.loop none (.seq (.region [
      ⟨(some 144), (.pure (.bin .lss)), [.t 143, .t 142], none⟩] false)
    (.seq (.cond (.t 144) .skip
    (.exit 8))
    (.seq (.block 9 (.seq (.region [
      ⟨(some 145), (.pure (.iaddS 6)), [.t 141, .t 143], none⟩,
      ⟨(some 146), (.read (.load 6 true) []), [.t 145], none⟩,
      ⟨(some 22), (.alloc (.alloc [(.int .i64 (Int.ofNat 0)), (.int .i64 (Int.ofNat 0)), (.int .i64 (Int.ofNat 0)), (.int .i64 (Int.ofNat 0)), (.int .i64 (Int.ofNat 0)), (.int .i64 (Int.ofNat 0))])), [], none⟩,
      ⟨none, (.eff (.store 6)), [.t 22, .t 146], none⟩] false)
    (.region [
      ⟨(some 147), (.pure .mov), [.t 20], none⟩,
      ⟨(some 148), (.pure .mov), [.t 147], none⟩,
      ⟨(some 149), (.read (.load 6 true) []), [.t 22], (some (148, false))⟩,
      ⟨(some 150), (.read (.load 6 true) []), [.t 19], (some (148, false))⟩,
      ⟨(some 151), (.pure (.aggEq false [.i, .i, .i, .i, .i, .i])), [.t 149, .t 150], (some (148, false))⟩,
      ⟨(some 152), (.pure .pick), [.t 148, .c (.bool true), .t 151], none⟩,
      ⟨(some 20), (.pure .mov), [.t 152], none⟩] false)))
    (.region [
      ⟨(some 153), (.pure (.bin .add)), [.t 143, .c (.int .i64 (Int.ofNat 1))], none⟩,
      ⟨(some 143), (.pure .mov), [.t 153], none⟩] false)))))))
    (.seq (.region [
      ⟨(some 154), (.pure .mov), [.t 20], none⟩,
      ⟨(some 155), (.pure (.un .not)), [.t 154], none⟩] false)
    (.cond (.t 155) (.seq (.region [
      ⟨(some 4), (.pure .mov), [.c (.bool false)], none⟩] false)
    .ret)
    .skip)))))))
    (.region [
      ⟨(some 156), (.pure (.bin .add)), [.t 127, .c (.int .i64 (Int.ofNat 1))], none⟩,
      ⟨(some 127), (.pure .mov), [.t 156], none⟩] false))))))))))))))))
    (.region [
      ⟨(some 157), (.pure (.bin .add)), [.t 71, .c (.int .i64 (Int.ofNat 1))], none⟩,
      ⟨(some 71), (.pure .mov), [.t 157], none⟩] false)))))))
    (.seq (.region [
      ⟨(some 4), (.pure .mov), [.c (.bool true)], none⟩] false)
    .ret))))))), [.tmp 4]⟩
theorem c4 : (match Try.prog.funcs[4]? with | some fn => compileFn Try.prog 0 [] fn | none => none) = some k4 := by kernel_rfl

/-- tompion/tompionlaw17.ClientAsks -/
def k5 : DFn := ⟨238, (.seq (.region [
      ⟨(some 3), (.alloc .box), [.t 0], none⟩,
      ⟨(some 6), (.pure .mov), [.c (.bool false)], none⟩] false)
    (.seq (.region [
      ⟨(some 17), (.call 8), [.c (.int .i64 (Int.ofNat 102))], none⟩,
      ⟨(some 16), (.pure .mov), [.t 17], none⟩,
      ⟨(some 18), (.pure (.extract 0)), [.t 16], none⟩,
      ⟨(some 19), (.pure (.extract 1)), [.t 16], none⟩,
      ⟨(some 7), (.pure .mov), [.t 18], none⟩,
      ⟨(some 8), (.pure .mov), [.t 19], none⟩] false)
    (.seq (.seq (.region [
      ⟨(some 20), (.call 9), [], none⟩,
      ⟨(some 21), (.pure (.un .not)), [.t 20], none⟩,
      ⟨(some 22), (.pure .mov), [.t 21], none⟩,
      ⟨(some 23), (.pure .mov), [.t 8], (some (22, false))⟩,
      ⟨(some 24), (.pure (.bin .neq)), [.t 23, .c (.int .i64 (Int.ofNat 0))], (some (22, false))⟩,
      ⟨(some 25), (.pure .pick), [.t 22, .c (.bool true), .t 24], none⟩,
      ⟨(some 26), (.pure .mov), [.t 25], none⟩,
      ⟨(some 27), (.pure .mov), [.t 1], (some (26, false))⟩,
      ⟨(some 28), (.pure .lenS), [.t 27], (some (26, false))⟩,
      ⟨(some 29), (.pure (.bin .gtr)), [.t 28, .c (.int .i64 (Int.ofNat 30))], (some (26, false))⟩,
      ⟨(some 30), (.pure .pick), [.t 26, .c (.bool true), .t 29], none⟩,
      ⟨(some 31), (.pure .mov), [.t 30], none⟩,
      ⟨(some 32), (.pure (.fadd 4)), [.t 3], (some (31, false))⟩,
      ⟨(some 33), (.read (.load 1 false) []), [.t 32], (some (31, false))⟩,
      ⟨(some 34), (.pure .lenStr), [.t 33], (some (31, false))⟩,
      ⟨(some 35), (.pure (.bin .gtr)), [.t 34, .c (.int .i64 (Int.ofNat 256))], (some (31, false))⟩,
      ⟨(some 36), (.pure .pick), [.t 31, .c (.bool true), .t 35], none⟩] false)
    (.cond (.t 36) (.seq (.region [
      ⟨(some 37), (.call 9), [], none⟩,
      ⟨(some 38), (.pure .mov), [.t 37], none⟩,
      ⟨(some 39), (.pure .mov), [.t 8], (some (38, true))⟩,
      ⟨(some 40), (.pure (.bin .eql)), [.t 39, .c (.int .i64 (Int.ofNat 0))], (some (38, true))⟩,
      ⟨(some 41), (.pure .pick), [.t 38, .t 40, .c (.bool false)], none⟩,
      ⟨(some 6), (.pure .mov), [.t 41], none⟩] false)
    .ret)
    .skip))
    (.seq (.region [
      ⟨(some 42), (.pure .mov), [.t 2], none⟩,
      ⟨(some 43), (.pure (.conv .u64)), [.t 42], none⟩,
      ⟨(some 44), (.pure (.bin .rem)), [.t 43, .c (.int .u64 (Int.ofNat 1099511627776))], none⟩,
      ⟨(some 45), (.pure (.conv .i64)), [.t 44], none⟩,
      ⟨(some 2), (.pure .mov), [.t 45], none⟩] false)
    (.seq (.seq (.region [
      ⟨(some 47), (.pure .mov), [.t 7], none⟩,
      ⟨(some 48), (.read (.load 5 true) []), [.t 3], none⟩,
      ⟨(some 49), (.pure .mov), [.t 2], none⟩,
      ⟨(some 50), (.call 10), [.t 47, .t 48, .t 49], none⟩,
      ⟨(some 46), (.pure .mov), [.t 50], none⟩,
      ⟨(some 51), (.pure (.extract 0)), [.t 46], none⟩,
      ⟨(some 52), (.pure (.extract 1)), [.t 46], none⟩,
      ⟨(some 9), (.pure .mov), [.t 51], none⟩,
      ⟨(some 10), (.pure .mov), [.t 52], none⟩] false)
    (.seq (.region [
      ⟨(some 53), (.pure .mov), [.t 10], none⟩,
      ⟨(some 54), (.pure (.bin .neq)), [.t 53, .c (.int .i64 (Int.ofNat 0))], none⟩] false)
    (.cond (.t 54) (.seq (.region [
      ⟨(some 55), (.pure .mov), [.t 10], none⟩,
      ⟨(some 56), (.pure (.bin .eql)), [.t 55, .c (.int .i64 (Int.ofNat 1))], none⟩,
      ⟨(some 6), (.pure .mov), [.t 56], none⟩] false)
    .ret)
    .skip)))
    (.seq (.region [
      ⟨(some 57), (.pure (.build [(.int .i64 (Int.ofNat 0)), (.slice none 0 0)] [])), [], none⟩,
      ⟨(some 11), (.alloc (.alloc [(.int .i64 (Int.ofNat 0)), (.slice none 0 0)])), [], none⟩,
      ⟨none, (.eff (.store 2)), [.t 11, .t 57], none⟩] false)
    (.seq (.seq (.region [
      ⟨(some 58), (.pure .mov), [.t 1], none⟩,
      ⟨(some 59), (.pure .lenS), [.t 58], none⟩,
      ⟨(some 60), (.pure .mov), [.c (.int .i64 (Int.ofNat 0))], none⟩] false)
    (.block 0 (.loop none (.seq (.region [
      ⟨(some 61), (.pure (.bin .lss)), [.t 60, .t 59], none⟩] false)
    (.seq (.cond (.t 61) .skip
    (.exit 0))
    (.seq (.block 1 (.seq (.region [
      ⟨(some 62), (.pure (.iaddS 2)), [.t 58, .t 60], none⟩,
      ⟨(some 63), (.read (.load 2 true) []), [.t 62], none⟩,
      ⟨(some 13), (.alloc (.alloc [(.int .i64 (Int.ofNat 0)), (.slice none 0 0)])), [], none⟩,
      ⟨none, (.eff (.store 2)), [.t 13, .t 63], none⟩] false)
    (.seq (.seq (.region [
      ⟨(some 64), (.pure (.fadd 1)), [.t 13], none⟩,
      ⟨(some 65), (.read (.load 1 false) []), [.t 64], none⟩,
      ⟨(some 66), (.pure .lenS), [.t 65], none⟩,
      ⟨(some 67), (.pure (.bin .gtr)), [.t 66, .c (.int .i64 (Int.ofNat 20))], none⟩] false)
    (.cond (.t 67) (.seq (.region [
      ⟨(some 6), (.pure .mov), [.c (.bool true)], none⟩] false)
    .ret)
    .skip))
    (.seq (.region [
      ⟨(some 68), (.pure .mov), [.t 7], none⟩,
      ⟨(some 69), (.read (.load 2 true) []), [.t 13], none⟩,
      ⟨(some 70), (.pure (.build [(.int .i64 (Int.ofNat 0)), (.int .i64 (Int.ofNat 0)), (.int .i64 (Int.ofNat 0)), (.int .i64 (Int.ofNat 0)), (.int .i64 (Int.ofNat 0)), (.int .i64 (Int.ofNat 0)), (.int .i64 (Int.ofNat 0)), (.int .i64 (Int.ofNat 0)), (.int .i64 (Int.ofNat 0)), (.int .i64 (Int.ofNat 0)), (.bool false), (.int .i64 (Int.ofNat 0)), (.int .i64 (Int.ofNat 0)), (.int .i64 (Int.ofNat 0)), (.int .i64 (Int.ofNat 0)), (.int .i64 (Int.ofNat 0)), (.int .i64 (Int.ofNat 0)), (.int .i64 (Int.ofNat 0)), (.int .i64 (Int.ofNat 0)), (.int .i64 (Int.ofNat 0)), (.string ⟨⟨[]⟩⟩), (.int .i64 (Int.ofNat 0)), (.int .i64 (Int.ofNat 0)), (.int .i64 (Int.ofNat 0)), (.int .i64 (Int.ofNat 0)), (.slice none 0 0), (.slice none 0 0), (.int .i64 (Int.ofNat 0))] [(0, 1), (1, 1), (24, 2)])), [.c (.int .i64 (Int.ofNat 2)), .c (.int .i64 (Int.ofNat 102)), .t 69], none⟩,
      ⟨(some 71), (.pure .mov), [.t 2], none⟩,
      ⟨(some 72), (.call 11), [.t 68, .t 70, .t 71], none⟩] false)
    (.seq (.seq (.region [
      ⟨(some 73), (.read (.load 2 true) []), [.t 13], none⟩,
      ⟨(some 74), (.call 16), [.t 73], none⟩,
      ⟨(some 75), (.pure .mov), [.t 74], none⟩,
      ⟨(some 76), (.pure (.fadd 0)), [.t 13], (some (75, true))⟩,
      ⟨(some 77), (.read (.load 1 false) []), [.t 76], (some (75, true))⟩,
      ⟨(some 78), (.pure (.fadd 0)), [.t 11], (some (75, true))⟩,
      ⟨(some 79), (.read (.load 1 false) []), [.t 78], (some (75, true))⟩,
      ⟨(some 80), (.pure (.bin .gtr)), [.t 77, .t 79], (some (75, true))⟩,
      ⟨(some 81), (.pure .pick), [.t 75, .t 80, .c (.bool false)], none⟩] false)
    (.cond (.t 81) (.region [
      ⟨(some 82), (.read (.load 2 true) []), [.t 13], none⟩,
      ⟨none, (.eff (.store 2)), [.t 11, .t 82], none⟩] false)
    .skip))
    (.seq (.region [
      ⟨(some 83), (.pure .mov), [.t 7], none⟩,
      ⟨(some 84), (.pure .mov), [.t 2], none⟩,
      ⟨(some 85), (.pure (.bin .add)), [.t 84, .c (.int .i64 (Int.ofNat 1))], none⟩,
      ⟨(some 86), (.call 17), [.t 83, .t 85], none⟩,
      ⟨(some 14), (.pure .mov), [.t 86], none⟩] false)
    (.seq (.seq (.region [
      ⟨(some 87), (.pure .mov), [.t 7], none⟩,
      ⟨(some 88), (.call 19), [.t 87], none⟩,
      ⟨(some 89), (.read (.load 2 true) [1]), [.t 11], none⟩,
      ⟨(some 90), (.call 18), [.t 88, .t 89], none⟩,
      ⟨(some 91), (.pure (.un .not)), [.t 90], none⟩] true)
    (.cond (.t 91) (.seq (.region [
      ⟨(some 6), (.pure .mov), [.c (.bool false)], none⟩] false)
    .ret)
    .skip))
    (.seq (.seq (.region [
      ⟨(some 92), (.pure (.fadd 1)), [.t 11], none⟩,
      ⟨(some 93), (.read (.load 1 false) []), [.t 92], none⟩,
      ⟨(some 94), (.pure .lenS), [.t 93], none⟩,
      ⟨(some 95), (.pure (.bin .eql)), [.t 94, .c (.int .i64 (Int.ofNat 0))], none⟩] false)
    (.cond (.t 95) (.seq (.seq (.region [
      ⟨(some 96), (.pure .mov), [.t 14], none⟩,
      ⟨(some 97), (.pure .lenS), [.t 96], none⟩,
      ⟨(some 98), (.pure (.bin .neq)), [.t 97, .c (.int .i64 (Int.ofNat 2))], none⟩,
      ⟨(some 99), (.pure .mov), [.t 98], none⟩,
      ⟨(some 100), (.pure .mov), [.t 14], (some (99, false))⟩,
      ⟨(some 101), (.pure (.iaddS 28)), [.t 100, .c (.int .i64 (Int.ofNat 0))], (some (99, false))⟩,
      ⟨(some 102), (.pure (.fadd 0)), [.t 101], (some (99, false))⟩,
      ⟨(some 103), (.read (.load 1 false) []), [.t 102], (some (99, false))⟩,
      ⟨(some 104), (.pure (.bin .neq)), [.t 103, .c (.int .i64 (Int.ofNat 15))], (some (99, false))⟩,
      ⟨(some 105), (.pure .pick), [.t 99, .c (.bool true), .t 104], none⟩,
      ⟨(some 106), (.pure .mov), [.t 105], none⟩,
      ⟨(some 107), (.pure .mov), [.t 14], (some (106, false))⟩,
      ⟨(some 108), (.pure (.iaddS 28)), [.t 107, .c (.int .i64 (Int.ofNat 1))], (some (106, false))⟩,
      ⟨(some 109), (.pure (.fadd 0)), [.t 108], (some (106, false))⟩,
      ⟨(some 110), (.read (.load 1 false) []), [.t 109], (some (106, false))⟩,
      ⟨(some 111), (.pure (.bin .neq)), [.t 110, .c (.int .i64 (Int.ofNat 15))], (some (106, false))⟩,
      ⟨(some 112), (.pure .pick), [.t 106, .c (.bool true), .t 111], none⟩] false)
    (.cond (.t 112) (.seq (.region [
      ⟨(some 6), (.pure .mov), [.c (.bool false)], none⟩] false)
    .ret)
    .skip))
    (.exit 1))
    .skip))
    (.seq (.seq (.region [
      ⟨(some 113), (.pure .mov), [.t 14], none⟩,
      ⟨(some 114), (.pure .lenS), [.t 113], none⟩,
      ⟨(some 115), (.pure (.bin .neq)), [.t 114, .c (.int .i64 (Int.ofNat 3))], none⟩,
      ⟨(some 116), (.pure .mov), [.t 115], none⟩,
      ⟨(some 117), (.pure .mov), [.t 14], (some (116, false))⟩,
      ⟨(some 118), (.pure (.iaddS 28)), [.t 117, .c (.int .i64 (Int.ofNat 1))], (some (116, false))⟩,
      ⟨(some 119), (.pure (.fadd 0)), [.t 118], (some (116, false))⟩,
      ⟨(some 120), (.read (.load 1 false) []), [.t 119], (some (116, false))⟩,
      ⟨(some 121), (.pure (.bin .neq)), [.t 120, .c (.int .i64 (Int.ofNat 15))], (some (116, false))⟩,
      ⟨(some 122), (.pure .pick), [.t 116, .c (.bool true), .t 121], none⟩,
      ⟨(some 123), (.pure .mov), [.t 122], none⟩,
      ⟨(some 124), (.pure .mov), [.t 14], (some (123, false))⟩,
      ⟨(some 125), (.pure (.iaddS 28)), [.t 124, .c (.int .i64 (Int.ofNat 2))], (some (123, false))⟩,
      ⟨(some 126), (.pure (.fadd 0)), [.t 125], (some (123, false))⟩,
      ⟨(some 127), (.read (.load 1 false) []), [.t 126], (some (123, false))⟩,
      ⟨(some 128), (.pure (.bin .neq)), [.t 127, .c (.int .i64 (Int.ofNat 13))], (some (123, false))⟩,
      ⟨(some 129), (.pure .pick), [.t 123, .c (.bool true), .t 128], none⟩,
      ⟨(some 130), (.pure .mov), [.t 129], none⟩,
      ⟨(some 131), (.pure .mov), [.t 14], (some (130, false))⟩,
      ⟨(some 132), (.pure (.iaddS 28)), [.t 131, .c (.int .i64 (Int.ofNat 2))], (some (130, false))⟩,
      ⟨(some 133), (.pure (.fadd 1)), [.t 132], (some (130, false))⟩,
      ⟨(some 134), (.read (.load 1 false) []), [.t 133], (some (130, false))⟩,
      ⟨(some 135), (.pure (.fadd 1)), [.t 11], (some (130, false))⟩,
      ⟨(some 136), (.read (.load 1 false) []), [.t 135], (some (130, false))⟩,
      ⟨(some 137), (.pure (.fadd 1)), [.t 11], (some (130, false))⟩,
      ⟨(some 138), (.read (.load 1 false) []), [.t 137], (some (130, false))⟩,
      ⟨(some 139), (.pure .lenS), [.t 138], (some (130, false))⟩,
      ⟨(some 140), (.pure (.bin .sub)), [.t 139, .c (.int .i64 (Int.ofNat 1))], (some (130, false))⟩,
      ⟨(some 141), (.pure (.iaddS 3)), [.t 136, .t 140], (some (130, false))⟩,
      ⟨(some 142), (.pure (.fadd 0)), [.t 141], (some (130, false))⟩,
      ⟨(some 143), (.pure (.fadd 0)), [.t 142], (some (130, false))⟩,
      ⟨(some 144), (.read (.load 1 false) []), [.t 143], (some (130, false))⟩,
      ⟨(some 145), (.pure (.bin .neq)), [.t 134, .t 144], (some (130, false))⟩,
      ⟨(some 146), (.pure .pick), [.t 130, .c (.bool true), .t 145], none⟩] false)
    (.cond (.t 146) (.seq (.region [
      ⟨(some 6), (.pure .mov), [.c (.bool false)], none⟩] false)
    .ret)
    .skip))
    (.seq (.region [
      ⟨(some 147), (.pure .mov), [.t 14], none⟩,
      ⟨(some 148), (.pure (.iaddS 28)), [.t 147, .c (.int .i64 (Int.ofNat 0))], none⟩,
      ⟨(some 149), (.read (.load 28 true) []), [.t 148], none⟩,
      ⟨(some 15), (.alloc (.alloc [(.int .i64 (Int.ofNat 0)), (.int .i64 (Int.ofNat 0)), (.int .i64 (Int.ofNat 0)), (.int .i64 (Int.ofNat 0)), (.int .i64 (Int.ofNat 0)), (.int .i64 (Int.ofNat 0)), (.int .i64 (Int.ofNat 0)), (.int .i64 (Int.ofNat 0)), (.int .i64 (Int.ofNat 0)), (.int .i64 (Int.ofNat 0)), (.bool false), (.int .i64 (Int.ofNat 0)), (.int .i64 (Int.ofNat 0)), (.int .i64 (Int.ofNat 0)), (.int .i64 (Int.ofNat 0)), (.int .i64 (Int.ofNat 0)), (.int .i64 (Int.ofNat 0)), (.int .i64 (Int.ofNat 0)), (.int .i64 (Int.ofNat 0)), (.int .i64 (Int.ofNat 0)), (.string ⟨⟨[]⟩⟩), (.int .i64 (Int.ofNat 0)), (.int .i64 (Int.ofNat 0)), (.int .i64 (Int.ofNat 0)), (.int .i64 (Int.ofNat 0)), (.slice none 0 0), (.slice none 0 0), (.int .i64 (Int.ofNat 0))])), [], none⟩,
      ⟨none, (.eff (.store 28)), [.t 15, .t 149], none⟩] false)
    (.seq (.region [
      ⟨(some 150), (.pure (.fadd 0)), [.t 3], none⟩,
      ⟨(some 151), (.read (.load 1 false) []), [.t 150], none⟩] false)
    (.block 2 (.seq (.region [
      ⟨(some 175), (.pure (.bin .eql)), [.t 151, .c (.int .i64 (Int.ofNat 3))], none⟩,
      ⟨(some 174), (.pure .mov), [.t 175], none⟩] false)
    (.cond (.t 174) (.seq (.region [
      ⟨(some 176), (.pure (.fadd 0)), [.t 15], none⟩,
      ⟨(some 177), (.read (.load 1 false) []), [.t 176], none⟩,
      ⟨(some 178), (.pure (.bin .neq)), [.t 177, .c (.int .i64 (Int.ofNat 9))], none⟩,
      ⟨(some 179), (.pure .mov), [.t 178], none⟩,
      ⟨(some 180), (.pure (.fadd 6)), [.t 15], (some (179, false))⟩,
      ⟨(some 181), (.read (.load 1 false) []), [.t 180], (some (179, false))⟩,
      ⟨(some 182), (.pure (.bin .neq)), [.t 181, .c (.int .i64 (Int.ofNat 1))], (some (179, false))⟩,
      ⟨(some 183), (.pure .pick), [.t 179, .c (.bool true), .t 182], none⟩,
      ⟨(some 184), (.pure .mov), [.t 183], none⟩,
      ⟨(some 185), (.pure (.fadd 8)), [.t 15], (some (184, false))⟩,
      ⟨(some 186), (.read (.load 1 false) []), [.t 185], (some (184, false))⟩,
      ⟨(some 187), (.pure (.fadd 1)), [.t 3], (some (184, false))⟩,
      ⟨(some 188), (.read (.load 1 false) []), [.t 187], (some (184, false))⟩,
      ⟨(some 189), (.pure (.bin .neq)), [.t 186, .t 188], (some (184, false))⟩,
      ⟨(some 190), (.pure .pick), [.t 184, .c (.bool true), .t 189], none⟩,
      ⟨(some 191), (.pure .mov), [.t 190], none⟩,
      ⟨(some 192), (.pure (.fadd 1)), [.t 15], (some (191, false))⟩,
      ⟨(some 193), (.read (.load 1 false) []), [.t 192], (some (191, false))⟩,
      ⟨(some 194), (.pure (.fadd 1)), [.t 11], (some (191, false))⟩,
      ⟨(some 195), (.read (.load 1 false) []), [.t 194], (some (191, false))⟩,
      ⟨(some 196), (.pure (.fadd 3)), [.t 3], (some (191, false))⟩,
      ⟨(some 197), (.read (.load 1 false) []), [.t 196], (some (191, false))⟩,
      ⟨(some 198), (.pure .max), [.t 197, .c (.int .i64 (Int.ofNat 0))], (some (191, false))⟩,
      ⟨(some 199), (.pure (.fadd 1)), [.t 11], (some (191, false))⟩,
      ⟨(some 200), (.read (.load 1 false) []), [.t 199], (some (191, false))⟩,
      ⟨(some 201), (.pure .lenS), [.t 200], (some (191, false))⟩,
      ⟨(some 202), (.pure (.bin .rem)), [.t 198, .t 201], (some (191, false))⟩,
      ⟨(some 203), (.pure (.iaddS 3)), [.t 195, .t 202], (some (191, false))⟩,
      ⟨(some 204), (.pure (.fadd 0)), [.t 203], (some (191, false))⟩,
      ⟨(some 205), (.pure (.fadd 0)), [.t 204], (some (191, false))⟩,
      ⟨(some 206), (.read (.load 1 false) []), [.t 205], (some (191, false))⟩,
      ⟨(some 207), (.pure (.bin .neq)), [.t 193, .t 206], (some (191, false))⟩,
      ⟨(some 208), (.pure .pick), [.t 191, .c (.bool true), .t 207], none⟩] false)
    (.cond (.t 208) (.seq (.region [
      ⟨(some 6), (.pure .mov), [.c (.bool false)], none⟩] false)
    .ret)
    .skip))
    (.seq (.region [
      ⟨(some 210), (.pure (.bin .eql)), [.t 151, .c (.int .i64 (Int.ofNat 1))], none⟩,
      ⟨(some 209), (.pure .mov), [.t 210], none⟩] false)
    (.cond (.t 209) (.seq (.region [
      ⟨(some 211), (.pure (.fadd 0)), [.t 15], none⟩,
      ⟨(some 212), (.read (.load 1 false) []), [.t 211], none⟩,
      ⟨(some 213), (.pure (.bin .neq)), [.t 212, .c (.int .i64 (Int.ofNat 7))], none⟩,
      ⟨(some 214), (.pure .mov), [.t 213], none⟩,
      ⟨(some 215), (.pure (.fadd 1)), [.t 15], (some (214, false))⟩,
      ⟨(some 216), (.read (.load 1 false) []), [.t 215], (some (214, false))⟩,
      ⟨(some 217), (.pure (.fadd 1)), [.t 11], (some (214, false))⟩,
      ⟨(some 218), (.read (.load 1 false) []), [.t 217], (some (214, false))⟩,
      ⟨(some 219), (.pure (.iaddS 3)), [.t 218, .c (.int .i64 (Int.ofNat 0))], (some (214, false))⟩,
      ⟨(some 220), (.pure (.fadd 0)), [.t 219], (some (214, false))⟩,
      ⟨(some 221), (.pure (.fadd 0)), [.t 220], (some (214, false))⟩,
      ⟨(some 222), (.read (.load 1 false) []), [.t 221], (some (214, false))⟩,
      ⟨(some 223), (.pure (.bin .neq)), [.t 216, .t 222], (some (214, false))⟩,
      ⟨(some 224), (.pure .pick), [.t 214, .c (.bool true), .t 223], none⟩,
      ⟨(some 225), (.pure .mov), [.t 224], none⟩,
      ⟨(some 226), (.pure (.fadd 11)), [.t 15], (some (225, false))⟩,
      ⟨(some 227), (.read (.load 10 true) []), [.t 226], (some (225, false))⟩,
      ⟨(some 228), (.pure (.fadd 1)), [.t 3], (some (225, false))⟩,
      ⟨(some 229), (.read (.load 1 false) []), [.t 228], (some (225, false))⟩,
      ⟨(some 230), (.pure (.fadd 2)), [.t 3], (some (225, false))⟩,
      ⟨(some 231), (.read (.load 1 false) []), [.t 230], (some (225, false))⟩,
      ⟨(some 232), (.pure (.fadd 4)), [.t 3], (some (225, false))⟩,
      ⟨(some 233), (.read (.load 1 false) []), [.t 232], (some (225, false))⟩,
      ⟨(some 234), (.pure (.build [(.int .i64 (Int.ofNat 0)), (.int .i64 (Int.ofNat 0)), (.int .i64 (Int.ofNat 0)), (.int .i64 (Int.ofNat 0)), (.int .i64 (Int.ofNat 0)), (.int .i64 (Int.ofNat 0)), (.int .i64 (Int.ofNat 0)), (.int .i64 (Int.ofNat 0)), (.int .i64 (Int.ofNat 0)), (.string ⟨⟨[]⟩⟩)] [(0, 1), (1, 1), (2, 1), (3, 1), (6, 1), (9, 1)])), [.c (.int .i64 (Int.ofNat 1)), .c (.int .i64 (Int.ofNat 102)), .c (.int .i64 (Int.ofNat 1)), .t 229, .t 231, .t 233], (some (225, false))⟩,
      ⟨(some 235), (.pure (.aggEq true [.i, .i, .i, .i, .i, .i, .i, .i, .i, .s])), [.t 227, .t 234], (some (225, false))⟩,
      ⟨(some 236), (.pure .pick), [.t 225, .c (.bool true), .t 235], none⟩] false)
    (.cond (.t 236) (.seq (.region [
      ⟨(some 6), (.pure .mov), [.c (.bool false)], none⟩] false)
    .ret)
    .skip))
    (.seq (.region [
      ⟨(some 152), (.pure (.fadd 0)), [.t 15], none⟩,
      ⟨(some 153), (.read (.load 1 false) []), [.t 152], none⟩,
      ⟨(some 154), (.pure (.bin .neq)), [.t 153, .c (.int .i64 (Int.ofNat 7))], none⟩,
      ⟨(some 155), (.pure .mov), [.t 154], none⟩,
      ⟨(some 156), (.pure (.fadd 1)), [.t 15], (some (155, false))⟩,
      ⟨(some 157), (.read (.load 1 false) []), [.t 156], (some (155, false))⟩,
      ⟨(some 158), (.pure (.fadd 1)), [.t 11], (some (155, false))⟩,
      ⟨(some 159), (.read (.load 1 false) []), [.t 158], (some (155, false))⟩,
      ⟨(some 160), (.pure (.iaddS 3)), [.t 159, .c (.int .i64 (Int.ofNat 0))], (some (155, false))⟩,
      ⟨(some 161), (.pure (.fadd 0)), [.t 160], (some (155, false))⟩,
      ⟨(some 162), (.pure (.fadd 0)), [.t 161], (some (155, false))⟩,
      ⟨(some 163), (.read (.load 1 false) []), [.t 162], (some (155, false))⟩,
      ⟨(some 164), (.pure (.bin .neq)), [.t 157, .t 163], (some (155, false))⟩,
      ⟨(some 165), (.pure .pick), [.t 155, .c (.bool true), .t 164], none⟩,
      ⟨(some 166), (.pure .mov), [.t 165], none⟩,
      ⟨(some 167), (.pure (.fadd 11)), [.t 15], (some (166, false))⟩,
      ⟨(some 168), (.read (.load 10 true) []), [.t 167], (some (166, false))⟩,
      ⟨(some 169), (.pure (.fadd 1)), [.t 3], (some (166, false))⟩,
      ⟨(some 170), (.read (.load 1 false) []), [.t 169], (some (166, false))⟩,
      ⟨(some 171), (.pure (.build [(.int .i64 (Int.ofNat 0)), (.int .i64 (Int.ofNat 0)), (.int .i64 (Int.ofNat 0)), (.int .i64 (Int.ofNat 0)), (.int .i64 (Int.ofNat 0)), (.int .i64 (Int.ofNat 0)), (.int .i64 (Int.ofNat 0)), (.int .i64 (Int.ofNat 0)), (.int .i64 (Int.ofNat 0)), (.string ⟨⟨[]⟩⟩)] [(0, 1), (1, 1), (2, 1), (3, 1)])), [.c (.int .i64 (Int.ofNat 2)), .c (.int .i64 (Int.ofNat 102)), .c (.int .i64 (Int.ofNat 1)), .t 170], (some (166, false))⟩,
      ⟨(some 172), (.pure (.aggEq true [.i, .i, .i, .i, .i, .i, .i, .i, .i, .s])), [.t 168, .t 171], (some (166, false))⟩,
      ⟨(some 173), (.pure .pick), [.t 166, .c (.bool true), .t 172], none⟩] false)
    (.cond (.t 173) (.seq (.region [
      ⟨(some 6), (.pure .mov), [.c (.bool false)], none⟩] false)
    .ret)
    .skip))))))))))))))))))
    (.region [
      ⟨(some 237), (.pure (.bin .add)), [.t 60, .c (.int .i64 (Int.ofNat 1))], none⟩,
      ⟨(some 60), (.pure .mov), [.t 237], none⟩] false)))))))
    (.seq (.region [
      ⟨(some 6), (.pure .mov), [.c (.bool true)], none⟩] false)
    .ret)))))))), [.tmp 6]⟩
theorem c5 : (match Try.prog.funcs[5]? with | some fn => compileFn Try.prog 0 [] fn | none => none) = some k5 := by kernel_rfl

/-- tompion/tompionlaw17.ClientQuiet -/
def k6 : DFn := ⟨100, (.seq (.region [
      ⟨(some 4), (.pure .mov), [.c (.bool false)], none⟩] false)
    (.seq (.region [
      ⟨(some 18), (.call 8), [.c (.int .i64 (Int.ofNat 100))], none⟩,
      ⟨(some 17), (.pure .mov), [.t 18], none⟩,
      ⟨(some 19), (.pure (.extract 0)), [.t 17], none⟩,
      ⟨(some 20), (.pure (.extract 1)), [.t 17], none⟩,
      ⟨(some 5), (.pure .mov), [.t 19], none⟩,
      ⟨(some 6), (.pure .mov), [.t 20], none⟩] false)
    (.seq (.seq (.region [
      ⟨(some 21), (.call 9), [], none⟩,
      ⟨(some 22), (.pure (.un .not)), [.t 21], none⟩,
      ⟨(some 23), (.pure .mov), [.t 22], none⟩,
      ⟨(some 24), (.pure .mov), [.t 6], (some (23, false))⟩,
      ⟨(some 25), (.pure (.bin .neq)), [.t 24, .c (.int .i64 (Int.ofNat 0))], (some (23, false))⟩,
      ⟨(some 26), (.pure .pick), [.t 23, .c (.bool true), .t 25], none⟩,
      ⟨(some 27), (.pure .mov), [.t 26], none⟩,
      ⟨(some 28), (.pure .mov), [.t 0], (some (27, false))⟩,
      ⟨(some 29), (.pure .lenS), [.t 28], (some (27, false))⟩,
      ⟨(some 30), (.pure (.bin .gtr)), [.t 29, .c (.int .i64 (Int.ofNat 100))], (some (27, false))⟩,
      ⟨(some 31), (.pure .pick), [.t 27, .c (.bool true), .t 30], none⟩] false)
    (.cond (.t 31) (.seq (.region [
      ⟨(some 32), (.call 9), [], none⟩,
      ⟨(some 33), (.pure .mov), [.t 32], none⟩,
      ⟨(some 34), (.pure .mov), [.t 6], (some (33, true))⟩,
      ⟨(some 35), (.pure (.bin .eql)), [.t 34, .c (.int .i64 (Int.ofNat 0))], (some (33, true))⟩,
      ⟨(some 36), (.pure .pick), [.t 33, .t 35, .c (.bool false)], none⟩,
      ⟨(some 4), (.pure .mov), [.t 36], none⟩] false)
    .ret)
    .skip))
    (.seq (.seq (.region [
      ⟨(some 37), (.pure .mov), [.t 0], none⟩,
      ⟨(some 38), (.pure .lenS), [.t 37], none⟩,
      ⟨(some 39), (.pure .mov), [.c (.int .i64 (Int.ofNat 0))], none⟩] false)
    (.block 0 (.loop none (.seq (.region [
      ⟨(some 40), (.pure (.bin .lss)), [.t 39, .t 38], none⟩] false)
    (.seq (.cond (.t 40) .skip
    (.exit 0))
    (.seq (.block 1 (.seq (.region [
      ⟨(some 41), (.pure (.iaddS 28)), [.t 37, .t 39], none⟩,
      ⟨(some 42), (.read (.load 28 true) []), [.t 41], none⟩,
      ⟨(some 8), (.alloc (.alloc [(.int .i64 (Int.ofNat 0)), (.int .i64 (Int.ofNat 0)), (.int .i64 (Int.ofNat 0)), (.int .i64 (Int.ofNat 0)), (.int .i64 (Int.ofNat 0)), (.int .i64 (Int.ofNat 0)), (.int .i64 (Int.ofNat 0)), (.int .i64 (Int.ofNat 0)), (.int .i64 (Int.ofNat 0)), (.int .i64 (Int.ofNat 0)), (.bool false), (.int .i64 (Int.ofNat 0)), (.int .i64 (Int.ofNat 0)), (.int .i64 (Int.ofNat 0)), (.int .i64 (Int.ofNat 0)), (.int .i64 (Int.ofNat 0)), (.int .i64 (Int.ofNat 0)), (.int .i64 (Int.ofNat 0)), (.int .i64 (Int.ofNat 0)), (.int .i64 (Int.ofNat 0)), (.string ⟨⟨[]⟩⟩), (.int .i64 (Int.ofNat 0)), (.int .i64 (Int.ofNat 0)), (.int .i64 (Int.ofNat 0)), (.int .i64 (Int.ofNat 0)), (.slice none 0 0), (.slice none 0 0), (.int .i64 (Int.ofNat 0))])), [], none⟩,
      ⟨none, (.eff (.store 28)), [.t 8, .t 42], none⟩] false)
    (.seq (.seq (.region [
      ⟨(some 43), (.read (.load 28 true) []), [.t 8], none⟩,
      ⟨(some 44), (.call 20), [.t 43], none⟩,
      ⟨(some 45), (.pure (.un .not)), [.t 44], none⟩] false)
    (.cond (.t 45) (.seq (.region [
      ⟨(some 4), (.pure .mov), [.c (.bool true)], none⟩] false)
    .ret)
    .skip))
    (.seq (.seq (.region [
      ⟨(some 46), (.pure .mov), [.t 5], none⟩,
      ⟨(some 47), (.read (.load 28 true) []), [.t 8], none⟩,
      ⟨(some 48), (.pure .mov), [.t 1], none⟩,
      ⟨(some 49), (.call 11), [.t 46, .t 47, .t 48], none⟩,
      ⟨(some 50), (.pure .lenS), [.t 49], none⟩,
      ⟨(some 51), (.pure (.bin .gtr)), [.t 50, .c (.int .i64 (Int.ofNat 0))], none⟩] false)
    (.cond (.t 51) (.seq (.region [
      ⟨(some 4), (.pure .mov), [.c (.bool false)], none⟩] false)
    .ret)
    .skip))
    (.seq (.seq (.region [
      ⟨(some 52), (.pure .mov), [.t 5], none⟩,
      ⟨(some 53), (.pure .mov), [.t 1], none⟩,
      ⟨(some 54), (.call 17), [.t 52, .t 53], none⟩,
      ⟨(some 55), (.pure .lenS), [.t 54], none⟩,
      ⟨(some 56), (.pure .mov), [.c (.int .i64 (Int.ofNat 0))], none⟩] false)
    (.block 2 (.loop none (.seq (.region [
      ⟨(some 57), (.pure (.bin .lss)), [.t 56, .t 55], none⟩] false)
    (.seq (.cond (.t 57) .skip
    (.exit 2))
    (.seq (.block 3 (.seq (.region [
      ⟨(some 58), (.pure (.iaddS 28)), [.t 54, .t 56], none⟩,
      ⟨(some 59), (.read (.load 28 true) []), [.t 58], none⟩,
      ⟨(some 10), (.alloc (.alloc [(.int .i64 (Int.ofNat 0)), (.int .i64 (Int.ofNat 0)), (.int .i64 (Int.ofNat 0)), (.int .i64 (Int.ofNat 0)), (.int .i64 (Int.ofNat 0)), (.int .i64 (Int.ofNat 0)), (.int .i64 (Int.ofNat 0)), (.int .i64 (Int.ofNat 0)), (.int .i64 (Int.ofNat 0)), (.int .i64 (Int.ofNat 0)), (.bool false), (.int .i64 (Int.ofNat 0)), (.int .i64 (Int.ofNat 0)), (.int .i64 (Int.ofNat 0)), (.int .i64 (Int.ofNat 0)), (.int .i64 (Int.ofNat 0)), (.int .i64 (Int.ofNat 0)), (.int .i64 (Int.ofNat 0)), (.int .i64 (Int.ofNat 0)), (.int .i64 (Int.ofNat 0)), (.string ⟨⟨[]⟩⟩), (.int .i64 (Int.ofNat 0)), (.int .i64 (Int.ofNat 0)), (.int .i64 (Int.ofNat 0)), (.int .i64 (Int.ofNat 0)), (.slice none 0 0), (.slice none 0 0), (.int .i64 (Int.ofNat 0))])), [], none⟩,
      ⟨none, (.eff (.store 28)), [.t 10, .t 59], none⟩] false)
    (.seq (.region [
      ⟨(some 60), (.pure (.fadd 0)), [.t 10], none⟩,
      ⟨(some 61), (.read (.load 1 false) []), [.t 60], none⟩,
      ⟨(some 62), (.pure (.bin .neq)), [.t 61, .c (.int .i64 (Int.ofNat 15))], none⟩,
      ⟨(some 63), (.pure .mov), [.t 62], none⟩,
      ⟨(some 64), (.pure (.fadd 0)), [.t 10], (some (63, true))⟩,
      ⟨(some 65), (.read (.load 1 false) []), [.t 64], (some (63, true))⟩,
      ⟨(some 66), (.pure (.bin .neq)), [.t 65, .c (.int .i64 (Int.ofNat 13))], (some (63, true))⟩,
      ⟨(some 67), (.pure .pick), [.t 63, .t 66, .c (.bool false)], none⟩,
      ⟨(some 68), (.pure .mov), [.t 67], none⟩,
      ⟨(some 69), (.pure (.fadd 2)), [.t 10], (some (68, false))⟩,
      ⟨(some 70), (.pure (.fadd 0)), [.t 69], (some (68, false))⟩,
      ⟨(some 71), (.read (.load 1 false) []), [.t 70], (some (68, false))⟩,
      ⟨(some 72), (.pure (.bin .neq)), [.t 71, .c (.int .i64 (Int.ofNat 100))], (some (68, false))⟩,
      ⟨(some 73), (.pure .pick), [.t 68, .c (.bool true), .t 72], none⟩] false)
    (.cond (.t 73) (.seq (.region [
      ⟨(some 4), (.pure .mov), [.c (.bool false)], none⟩] false)
    .ret)
    .skip))))
    (.region [
      ⟨(some 74), (.pure (.bin .add)), [.t 56, .c (.int .i64 (Int.ofNat 1))], none⟩,
      ⟨(some 56), (.pure .mov), [.t 74], none⟩] false)))))))
    (.seq (.region [
      ⟨(some 76), (.pure .mov), [.t 5], none⟩,
      ⟨(some 77), (.call 13), [.t 76], none⟩,
      ⟨(some 75), (.pure .mov), [.t 77], none⟩,
      ⟨(some 78), (.pure (.extract 0)), [.t 75], none⟩,
      ⟨(some 79), (.pure (.extract 1)), [.t 75], none⟩,
      ⟨(some 11), (.alloc (.alloc [(.int .i64 (Int.ofNat 0)), (.int .i64 (Int.ofNat 0)), (.int .i64 (Int.ofNat 0)), (.int .i64 (Int.ofNat 0)), (.int .i64 (Int.ofNat 0)), (.int .i64 (Int.ofNat 0)), (.int .i64 (Int.ofNat 0)), (.int .i64 (Int.ofNat 0)), (.string ⟨⟨[]⟩⟩), (.int .i64 (Int.ofNat 0)), (.int .i64 (Int.ofNat 0)), (.int .i64 (Int.ofNat 0)), (.int .i64 (Int.ofNat 0))])), [], none⟩,
      ⟨none, (.eff (.store 13)), [.t 11, .t 78], none⟩,
      ⟨(some 12), (.pure .mov), [.t 79], none⟩] false)
    (.seq (.region [
      ⟨(some 80), (.pure .mov), [.t 12], none⟩] false)
    (.cond (.t 80) (.seq (.region [
      ⟨(some 4), (.pure .mov), [.c (.bool false)], none⟩] false)
    .ret)
    .skip))))))))
    (.region [
      ⟨(some 81), (.pure (.bin .add)), [.t 39, .c (.int .i64 (Int.ofNat 1))], none⟩,
      ⟨(some 39), (.pure .mov), [.t 81], none⟩] false)))))))
    (.seq (.seq (.region [
      ⟨(some 82), (.pure .mov), [.t 5], none⟩,
      ⟨(some 83), (.call 15), [.t 82], none⟩,
      ⟨(some 84), (.pure .lenS), [.t 83], none⟩,
      ⟨(some 85), (.pure .mov), [.c (.int .i64 (Int.ofNat 0))], none⟩] false)
    (.block 4 (.loop none (.seq (.region [
      ⟨(some 86), (.pure (.bin .lss)), [.t 85, .t 84], none⟩] false)
    (.seq (.cond (.t 86) .skip
    (.exit 4))
    (.seq (.block 5 (.seq (.region [
      ⟨(some 87), (.pure (.iaddS 6)), [.t 83, .t 85], none⟩,
      ⟨(some 88), (.read (.load 6 true) []), [.t 87], none⟩,
      ⟨(some 14), (.alloc (.alloc [(.int .i64 (Int.ofNat 0)), (.int .i64 (Int.ofNat 0)), (.int .i64 (Int.ofNat 0)), (.int .i64 (Int.ofNat 0)), (.int .i64 (Int.ofNat 0)), (.int .i64 (Int.ofNat 0))])), [], none⟩,
      ⟨none, (.eff (.store 6)), [.t 14, .t 88], none⟩] false)
    (.seq (.region [
      ⟨(some 89), (.pure (.fadd 1)), [.t 14], none⟩,
      ⟨(some 90), (.read (.load 1 false) []), [.t 89], none⟩,
      ⟨(some 91), (.pure (.bin .neq)), [.t 90, .c (.int .i64 (Int.ofNat 100))], none⟩] false)
    (.cond (.t 91) (.seq (.region [
      ⟨(some 4), (.pure .mov), [.c (.bool false)], none⟩] false)
    .ret)
    .skip))))
    (.region [
      ⟨(some 92), (.pure (.bin .add)), [.t 85, .c (.int .i64 (Int.ofNat 1))], none⟩,
      ⟨(some 85), (.pure .mov), [.t 92], none⟩] false)))))))
    (.seq (.region [
      ⟨(some 94), (.pure .mov), [.t 5], none⟩,
      ⟨(some 95), (.call 12), [.t 94], none⟩,
      ⟨(some 93), (.pure .mov), [.t 95], none⟩,
      ⟨(some 96), (.pure (.extract 0)), [.t 93], none⟩,
      ⟨(some 97), (.pure (.extract 1)), [.t 93], none⟩,
      ⟨(some 15), (.pure .mov), [.t 96], none⟩,
      ⟨(some 16), (.pure .mov), [.t 97], none⟩] false)
    (.seq (.region [
      ⟨(some 98), (.pure .mov), [.t 16], none⟩,
      ⟨(some 99), (.pure (.un .not)), [.t 98], none⟩,
      ⟨(some 4), (.pure .mov), [.t 99], none⟩] false)
    .ret))))))), [.tmp 4]⟩
theorem c6 : (match Try.prog.funcs[6]? with | some fn => compileFn Try.prog 0 [] fn | none => none) = some k6 := by kernel_rfl

/-- tompion/tompionlaw17.ClientNil -/
def k7 : DFn := ⟨81, (.seq (.region [
      ⟨(some 3), (.alloc .box), [.t 0], none⟩,
      ⟨(some 4), (.alloc .box), [.t 1], none⟩,
      ⟨(some 6), (.pure .mov), [.c (.bool false)], none⟩] false)
    (.seq (.region [
      ⟨(some 7), (.pure .mov), [.c (.pointer none)], none⟩] false)
    (.seq (.region [
      ⟨(some 15), (.pure .mov), [.t 7], none⟩,
      ⟨(some 16), (.read (.load 5 true) []), [.t 3], none⟩,
      ⟨(some 17), (.pure .mov), [.t 2], none⟩,
      ⟨(some 18), (.call 10), [.t 15, .t 16, .t 17], none⟩,
      ⟨(some 14), (.pure .mov), [.t 18], none⟩,
      ⟨(some 19), (.pure (.extract 0)), [.t 14], none⟩,
      ⟨(some 20), (.pure (.extract 1)), [.t 14], none⟩,
      ⟨(some 8), (.pure .mov), [.t 19], none⟩,
      ⟨(some 9), (.pure .mov), [.t 20], none⟩] false)
    (.seq (.region [
      ⟨(some 22), (.pure .mov), [.t 7], none⟩,
      ⟨(some 23), (.call 12), [.t 22], none⟩,
      ⟨(some 21), (.pure .mov), [.t 23], none⟩,
      ⟨(some 24), (.pure (.extract 0)), [.t 21], none⟩,
      ⟨(some 25), (.pure (.extract 1)), [.t 21], none⟩,
      ⟨(some 10), (.pure .mov), [.t 24], none⟩,
      ⟨(some 11), (.pure .mov), [.t 25], none⟩] false)
    (.seq (.region [
      ⟨(some 27), (.pure .mov), [.t 7], none⟩,
      ⟨(some 28), (.call 13), [.t 27], none⟩,
      ⟨(some 26), (.pure .mov), [.t 28], none⟩,
      ⟨(some 29), (.pure (.extract 0)), [.t 26], none⟩,
      ⟨(some 30), (.pure (.extract 1)), [.t 26], none⟩,
      ⟨(some 12), (.alloc (.alloc [(.int .i64 (Int.ofNat 0)), (.int .i64 (Int.ofNat 0)), (.int .i64 (Int.ofNat 0)), (.int .i64 (Int.ofNat 0)), (.int .i64 (Int.ofNat 0)), (.int .i64 (Int.ofNat 0)), (.int .i64 (Int.ofNat 0)), (.int .i64 (Int.ofNat 0)), (.string ⟨⟨[]⟩⟩), (.int .i64 (Int.ofNat 0)), (.int .i64 (Int.ofNat 0)), (.int .i64 (Int.ofNat 0)), (.int .i64 (Int.ofNat 0))])), [], none⟩,
      ⟨none, (.eff (.store 13)), [.t 12, .t 29], none⟩,
      ⟨(some 13), (.pure .mov), [.t 30], none⟩] false)
    (.seq (.region [
      ⟨(some 31), (.call 9), [], none⟩,
      ⟨(some 32), (.pure .mov), [.t 31], none⟩,
      ⟨(some 33), (.pure .mov), [.t 8], (some (32, true))⟩,
      ⟨(some 34), (.pure .lenS), [.t 33], (some (32, true))⟩,
      ⟨(some 35), (.pure (.bin .eql)), [.t 34, .c (.int .i64 (Int.ofNat 0))], (some (32, true))⟩,
      ⟨(some 36), (.pure .pick), [.t 32, .t 35, .c (.bool false)], none⟩,
      ⟨(some 37), (.pure .mov), [.t 36], none⟩,
      ⟨(some 38), (.pure .mov), [.t 9], (some (37, true))⟩,
      ⟨(some 39), (.pure (.bin .eql)), [.t 38, .c (.int .i64 (Int.ofNat 12))], (some (37, true))⟩,
      ⟨(some 40), (.pure .pick), [.t 37, .t 39, .c (.bool false)], none⟩,
      ⟨(some 41), (.pure .mov), [.t 40], none⟩,
      ⟨(some 42), (.pure .mov), [.t 7], (some (41, true))⟩,
      ⟨(some 43), (.read (.load 28 true) []), [.t 4], (some (41, true))⟩,
      ⟨(some 44), (.pure .mov), [.t 2], (some (41, true))⟩,
      ⟨(some 45), (.call 11), [.t 42, .t 43, .t 44], (some (41, true))⟩,
      ⟨(some 46), (.pure .lenS), [.t 45], (some (41, true))⟩,
      ⟨(some 47), (.pure (.bin .eql)), [.t 46, .c (.int .i64 (Int.ofNat 0))], (some (41, true))⟩,
      ⟨(some 48), (.pure .pick), [.t 41, .t 47, .c (.bool false)], none⟩,
      ⟨(some 49), (.pure .mov), [.t 48], none⟩,
      ⟨(some 50), (.pure .mov), [.t 7], (some (49, true))⟩,
      ⟨(some 51), (.pure .mov), [.t 2], (some (49, true))⟩,
      ⟨(some 52), (.call 17), [.t 50, .t 51], (some (49, true))⟩,
      ⟨(some 53), (.pure .lenS), [.t 52], (some (49, true))⟩,
      ⟨(some 54), (.pure (.bin .eql)), [.t 53, .c (.int .i64 (Int.ofNat 0))], (some (49, true))⟩,
      ⟨(some 55), (.pure .pick), [.t 49, .t 54, .c (.bool false)], none⟩,
      ⟨(some 56), (.pure .mov), [.t 55], none⟩,
      ⟨(some 57), (.pure .mov), [.t 11], (some (56, true))⟩,
      ⟨(some 58), (.pure (.un .not)), [.t 57], (some (56, true))⟩,
      ⟨(some 59), (.pure .pick), [.t 56, .t 58, .c (.bool false)], none⟩,
      ⟨(some 60), (.pure .mov), [.t 59], none⟩,
      ⟨(some 61), (.pure .mov), [.t 13], (some (60, true))⟩,
      ⟨(some 62), (.pure (.un .not)), [.t 61], (some (60, true))⟩,
      ⟨(some 63), (.pure .pick), [.t 60, .t 62, .c (.bool false)], none⟩,
      ⟨(some 64), (.pure .mov), [.t 63], none⟩,
      ⟨(some 65), (.pure .mov), [.t 7], (some (64, true))⟩,
      ⟨(some 66), (.call 15), [.t 65], (some (64, true))⟩,
      ⟨(some 67), (.pure .lenS), [.t 66], (some (64, true))⟩,
      ⟨(some 68), (.pure (.bin .eql)), [.t 67, .c (.int .i64 (Int.ofNat 0))], (some (64, true))⟩,
      ⟨(some 69), (.pure .pick), [.t 64, .t 68, .c (.bool false)], none⟩,
      ⟨(some 70), (.pure .mov), [.t 69], none⟩,
      ⟨(some 71), (.pure .mov), [.t 7], (some (70, true))⟩,
      ⟨(some 72), (.call 14), [.t 71], (some (70, true))⟩,
      ⟨(some 73), (.pure (.bin .eql)), [.t 72, .c (.int .i64 (Int.ofNat 0))], (some (70, true))⟩,
      ⟨(some 74), (.pure .pick), [.t 70, .t 73, .c (.bool false)], none⟩,
      ⟨(some 75), (.pure .mov), [.t 74], none⟩,
      ⟨(some 76), (.pure .mov), [.t 7], (some (75, true))⟩,
      ⟨(some 77), (.call 19), [.t 76], (some (75, true))⟩,
      ⟨(some 78), (.pure (.field 0 1 false)), [.t 77], (some (75, true))⟩,
      ⟨(some 79), (.pure (.bin .eql)), [.t 78, .c (.int .i64 (Int.ofNat 0))], (some (75, true))⟩,
      ⟨(some 80), (.pure .pick), [.t 75, .t 79, .c (.bool false)], none⟩,
      ⟨(some 6), (.pure .mov), [.t 80], none⟩] false)
    .ret)))))), [.tmp 6]⟩
theorem c7 : (match Try.prog.funcs[7]? with | some fn => compileFn Try.prog 0 [] fn | none => none) = some k7 := by kernel_rfl

/-- tompion/client.New -/
def k8 : DFn := ⟨14, (.seq (.region [
      ⟨(some 2), (.pure .mov), [.c (.pointer none)], none⟩,
      ⟨(some 3), (.pure .mov), [.c (.int .i64 (Int.ofNat 0))], none⟩] false)
    (.seq (.seq (.region [
      ⟨(some 4), (.pure .mov), [.t 0], none⟩,
      ⟨(some 5), (.pure (.bin .lss)), [.t 4, .c (.int .i64 (Int.ofNat 100))], none⟩,
      ⟨(some 6), (.pure .mov), [.t 5], none⟩,
      ⟨(some 7), (.pure .mov), [.t 0], (some (6, false))⟩,
      ⟨(some 8), (.pure (.bin .geq)), [.t 7, .c (.int .i64 (Int.ofNat 104))], (some (6, false))⟩,
      ⟨(some 9), (.pure .pick), [.t 6, .c (.bool true), .t 8], none⟩] false)
    (.cond (.t 9) (.seq (.region [
      ⟨(some 2), (.pure .mov), [.c (.pointer none)], none⟩,
      ⟨(some 3), (.pure .mov), [.c (.int .i64 (Int.ofNat 1))], none⟩] false)
    .ret)
    .skip))
    (.seq (.region [
      ⟨(some 10), (.pure .mov), [.t 0], none⟩,
      ⟨(some 11), (.alloc .mkmap), [], none⟩,
      ⟨(some 12), (.pure (.build [(.int .i64 (Int.ofNat 0)), (.int .i64 (Int.ofNat 0)), (.pointer none), (.int .i64 (Int.ofNat 0)), (.slice none 0 0), (.slice none 0 0), (.slice none 0 0), (.map none), (.int .i64 (Int.ofNat 0))] [(0, 1), (7, 1)])), [.t 10, .t 11], none⟩,
      ⟨(some 13), (.alloc .box), [.t 12], none⟩,
      ⟨(some 2), (.pure .mov), [.t 13], none⟩,
      ⟨(some 3), (.pure .mov), [.c (.int .i64 (Int.ofNat 0))], none⟩] false)
    .ret))), [.tmp 2, .tmp 3]⟩
theorem c8 : (match Try.prog.funcs[8]? with | some fn => compileFn Try.prog 0 [] fn | none => none) = some k8 := by kernel_rfl

/-- tompion/tompionlaw17.awake -/
def k9 : DFn := ⟨120, (.seq (.region [
      ⟨(some 0), (.pure .mov), [.c (.bool false)], none⟩] false)
    (.seq (.region [
      ⟨(some 15), (.call 8), [.c (.int .i64 (Int.ofNat 100))], none⟩,
      ⟨(some 14), (.pure .mov), [.t 15], none⟩,
      ⟨(some 16), (.pure (.extract 0)), [.t 14], none⟩,
      ⟨(some 17), (.pure (.extract 1)), [.t 14], none⟩,
      ⟨(some 1), (.pure .mov), [.t 16], none⟩,
      ⟨(some 2), (.pure .mov), [.t 17], none⟩] false)
    (.seq (.seq (.region [
      ⟨(some 18), (.pure .mov), [.t 1], none⟩,
      ⟨(some 19), (.pure (.nilEq false .ptr)), [.t 18], none⟩,
      ⟨(some 20), (.pure .mov), [.t 19], none⟩,
      ⟨(some 21), (.pure .mov), [.t 2], (some (20, false))⟩,
      ⟨(some 22), (.pure (.bin .neq)), [.t 21, .c (.int .i64 (Int.ofNat 0))], (some (20, false))⟩,
      ⟨(some 23), (.pure .pick), [.t 20, .c (.bool true), .t 22], none⟩] false)
    (.cond (.t 23) (.seq (.region [
      ⟨(some 0), (.pure .mov), [.c (.bool false)], none⟩] false)
    .ret)
    .skip))
    (.seq (.region [
      ⟨(some 25), (.pure .mov), [.t 1], none⟩,
      ⟨(some 26), (.pure (.build [(.int .i64 (Int.ofNat 0)), (.int .i64 (Int.ofNat 0)), (.int .i64 (Int.ofNat 0)), (.int .i64 (Int.ofNat 0)), (.string ⟨⟨[]⟩⟩)] [(0, 1), (1, 1), (3, 1)])), [.c (.int .i64 (Int.ofNat 3)), .c (.int .i64 (Int.ofNat 7)), .c (.int .i64 (Int.ofNat 1))], none⟩,
      ⟨(some 27), (.call 10), [.t 25, .t 26, .c (.int .i64 (Int.ofNat 0))], none⟩,
      ⟨(some 24), (.pure .mov), [.t 27], none⟩,
      ⟨(some 28), (.pure (.extract 0)), [.t 24], none⟩,
      ⟨(some 29), (.pure (.extract 1)), [.t 24], none⟩,
      ⟨(some 3), (.pure .mov), [.t 28], none⟩,
      ⟨(some 4), (.pure .mov), [.t 29], none⟩] false)
    (.seq (.region [
      ⟨(some 31), (.pure .mov), [.t 1], none⟩,
      ⟨(some 32), (.pure (.build [(.int .i64 (Int.ofNat 0)), (.int .i64 (Int.ofNat 0)), (.int .i64 (Int.ofNat 0)), (.int .i64 (Int.ofNat 0)), (.string ⟨⟨[]⟩⟩)] [(0, 1)])), [.c (.int .i64 (Int.ofNat 3))], none⟩,
      ⟨(some 33), (.call 10), [.t 31, .t 32, .c (.int .i64 (Int.ofNat 0))], none⟩,
      ⟨(some 30), (.pure .mov), [.t 33], none⟩,
      ⟨(some 34), (.pure (.extract 0)), [.t 30], none⟩,
      ⟨(some 35), (.pure (.extract 1)), [.t 30], none⟩,
      ⟨(some 5), (.pure .mov), [.t 34], none⟩,
      ⟨(some 6), (.pure .mov), [.t 35], none⟩] false)
    (.seq (.region [
      ⟨(some 36), (.pure .mov), [.t 1], none⟩,
      ⟨(some 37), (.call 21), [.c (.int .i64 (Int.ofNat 2))], none⟩,
      ⟨(some 38), (.pure (.build [(.int .i64 (Int.ofNat 0)), (.int .i64 (Int.ofNat 0)), (.int .i64 (Int.ofNat 0)), (.int .i64 (Int.ofNat 0)), (.int .i64 (Int.ofNat 0)), (.int .i64 (Int.ofNat 0)), (.int .i64 (Int.ofNat 0)), (.int .i64 (Int.ofNat 0)), (.int .i64 (Int.ofNat 0)), (.int .i64 (Int.ofNat 0)), (.bool false), (.int .i64 (Int.ofNat 0)), (.int .i64 (Int.ofNat 0)), (.int .i64 (Int.ofNat 0)), (.int .i64 (Int.ofNat 0)), (.int .i64 (Int.ofNat 0)), (.int .i64 (Int.ofNat 0)), (.int .i64 (Int.ofNat 0)), (.int .i64 (Int.ofNat 0)), (.int .i64 (Int.ofNat 0)), (.string ⟨⟨[]⟩⟩), (.int .i64 (Int.ofNat 0)), (.int .i64 (Int.ofNat 0)), (.int .i64 (Int.ofNat 0)), (.int .i64 (Int.ofNat 0)), (.slice none 0 0), (.slice none 0 0), (.int .i64 (Int.ofNat 0))] [(0, 1), (1, 1), (24, 2)])), [.c (.int .i64 (Int.ofNat 2)), .c (.int .i64 (Int.ofNat 100)), .t 37], none⟩,
      ⟨(some 39), (.call 11), [.t 36, .t 38, .c (.int .i64 (Int.ofNat 1))], none⟩,
      ⟨(some 7), (.pure .mov), [.t 39], none⟩] false)
    (.seq (.region [
      ⟨(some 40), (.pure .mov), [.t 1], none⟩,
      ⟨(some 41), (.pure (.build [(.int .i64 (Int.ofNat 0)), (.int .i64 (Int.ofNat 0)), (.int .i64 (Int.ofNat 0))] [(1, 1)])), [.c (.int .i64 (Int.ofNat 3))], none⟩,
      ⟨(some 42), (.pure (.build [(.int .i64 (Int.ofNat 0)), (.int .i64 (Int.ofNat 0)), (.int .i64 (Int.ofNat 0)), (.int .i64 (Int.ofNat 0)), (.int .i64 (Int.ofNat 0)), (.int .i64 (Int.ofNat 0)), (.int .i64 (Int.ofNat 0)), (.int .i64 (Int.ofNat 0)), (.int .i64 (Int.ofNat 0)), (.int .i64 (Int.ofNat 0)), (.bool false), (.int .i64 (Int.ofNat 0)), (.int .i64 (Int.ofNat 0)), (.int .i64 (Int.ofNat 0)), (.int .i64 (Int.ofNat 0)), (.int .i64 (Int.ofNat 0)), (.int .i64 (Int.ofNat 0)), (.int .i64 (Int.ofNat 0)), (.int .i64 (Int.ofNat 0)), (.int .i64 (Int.ofNat 0)), (.string ⟨⟨[]⟩⟩), (.int .i64 (Int.ofNat 0)), (.int .i64 (Int.ofNat 0)), (.int .i64 (Int.ofNat 0)), (.int .i64 (Int.ofNat 0)), (.slice none 0 0), (.slice none 0 0), (.int .i64 (Int.ofNat 0))] [(0, 1), (1, 1), (6, 1), (21, 3), (5, 1)])), [.c (.int .i64 (Int.ofNat 10)), .c (.int .i64 (Int.ofNat 100)), .c (.int .i64 (Int.ofNat 1)), .t 41, .c (.int .i64 (Int.ofNat 9))], none⟩,
      ⟨(some 43), (.call 11), [.t 40, .t 42, .c (.int .i64 (Int.ofNat 2))], none⟩] false)
    (.seq (.region [
      ⟨(some 45), (.pure .mov), [.t 1], none⟩,
      ⟨(some 46), (.call 13), [.t 45], none⟩,
      ⟨(some 44), (.pure .mov), [.t 46], none⟩,
      ⟨(some 47), (.pure (.extract 0)), [.t 44], none⟩,
      ⟨(some 48), (.pure (.extract 1)), [.t 44], none⟩,
      ⟨(some 8), (.alloc (.alloc [(.int .i64 (Int.ofNat 0)), (.int .i64 (Int.ofNat 0)), (.int .i64 (Int.ofNat 0)), (.int .i64 (Int.ofNat 0)), (.int .i64 (Int.ofNat 0)), (.int .i64 (Int.ofNat 0)), (.int .i64 (Int.ofNat 0)), (.int .i64 (Int.ofNat 0)), (.string ⟨⟨[]⟩⟩), (.int .i64 (Int.ofNat 0)), (.int .i64 (Int.ofNat 0)), (.int .i64 (Int.ofNat 0)), (.int .i64 (Int.ofNat 0))])), [], none⟩,
      ⟨none, (.eff (.store 13)), [.t 8, .t 47], none⟩,
      ⟨(some 9), (.pure .mov), [.t 48], none⟩] false)
    (.seq (.region [
      ⟨(some 50), (.pure .mov), [.t 1], none⟩,
      ⟨(some 51), (.call 13), [.t 50], none⟩,
      ⟨(some 49), (.pure .mov), [.t 51], none⟩,
      ⟨(some 52), (.pure (.extract 0)), [.t 49], none⟩,
      ⟨(some 53), (.pure (.extract 1)), [.t 49], none⟩,
      ⟨(some 10), (.alloc (.alloc [(.int .i64 (Int.ofNat 0)), (.int .i64 (Int.ofNat 0)), (.int .i64 (Int.ofNat 0)), (.int .i64 (Int.ofNat 0)), (.int .i64 (Int.ofNat 0)), (.int .i64 (Int.ofNat 0)), (.int .i64 (Int.ofNat 0)), (.int .i64 (Int.ofNat 0)), (.string ⟨⟨[]⟩⟩), (.int .i64 (Int.ofNat 0)), (.int .i64 (Int.ofNat 0)), (.int .i64 (Int.ofNat 0)), (.int .i64 (Int.ofNat 0))])), [], none⟩,
      ⟨none, (.eff (.store 13)), [.t 10, .t 52], none⟩,
      ⟨(some 11), (.pure .mov), [.t 53], none⟩] false)
    (.seq (.region [
      ⟨(some 55), (.call 8), [.c (.int .i64 (Int.ofNat 104))], none⟩,
      ⟨(some 54), (.pure .mov), [.t 55], none⟩,
      ⟨(some 56), (.pure (.extract 0)), [.t 54], none⟩,
      ⟨(some 57), (.pure (.extract 1)), [.t 54], none⟩,
      ⟨(some 12), (.pure .mov), [.t 56], none⟩,
      ⟨(some 13), (.pure .mov), [.t 57], none⟩] false)
    (.seq (.region [
      ⟨(some 58), (.pure .mov), [.t 3], none⟩,
      ⟨(some 59), (.pure .lenS), [.t 58], none⟩,
      ⟨(some 60), (.pure (.bin .eql)), [.t 59, .c (.int .i64 (Int.ofNat 1))], none⟩,
      ⟨(some 61), (.pure .mov), [.t 60], none⟩,
      ⟨(some 62), (.pure .mov), [.t 3], (some (61, true))⟩,
      ⟨(some 63), (.pure (.iaddS 28)), [.t 62, .c (.int .i64 (Int.ofNat 0))], (some (61, true))⟩,
      ⟨(some 64), (.pure (.fadd 0)), [.t 63], (some (61, true))⟩,
      ⟨(some 65), (.read (.load 1 false) []), [.t 64], (some (61, true))⟩,
      ⟨(some 66), (.pure (.bin .eql)), [.t 65, .c (.int .i64 (Int.ofNat 15))], (some (61, true))⟩,
      ⟨(some 67), (.pure .pick), [.t 61, .t 66, .c (.bool false)], none⟩,
      ⟨(some 68), (.pure .mov), [.t 67], none⟩,
      ⟨(some 69), (.pure .mov), [.t 4], (some (68, true))⟩,
      ⟨(some 70), (.pure (.bin .eql)), [.t 69, .c (.int .i64 (Int.ofNat 0))], (some (68, true))⟩,
      ⟨(some 71), (.pure .pick), [.t 68, .t 70, .c (.bool false)], none⟩,
      ⟨(some 72), (.pure .mov), [.t 71], none⟩,
      ⟨(some 73), (.pure .mov), [.t 6], (some (72, true))⟩,
      ⟨(some 74), (.pure (.bin .eql)), [.t 73, .c (.int .i64 (Int.ofNat 13))], (some (72, true))⟩,
      ⟨(some 75), (.pure .pick), [.t 72, .t 74, .c (.bool false)], none⟩,
      ⟨(some 76), (.pure .mov), [.t 75], none⟩,
      ⟨(some 77), (.pure .mov), [.t 7], (some (76, true))⟩,
      ⟨(some 78), (.pure .lenS), [.t 77], (some (76, true))⟩,
      ⟨(some 79), (.pure (.bin .eql)), [.t 78, .c (.int .i64 (Int.ofNat 1))], (some (76, true))⟩,
      ⟨(some 80), (.pure .pick), [.t 76, .t 79, .c (.bool false)], none⟩,
      ⟨(some 81), (.pure .mov), [.t 80], none⟩,
      ⟨(some 82), (.pure .mov), [.t 7], (some (81, true))⟩,
      ⟨(some 83), (.pure (.iaddS 28)), [.t 82, .c (.int .i64 (Int.ofNat 0))], (some (81, true))⟩,
      ⟨(some 84), (.pure (.fadd 0)), [.t 83], (some (81, true))⟩,
      ⟨(some 85), (.read (.load 1 false) []), [.t 84], (some (81, true))⟩,
      ⟨(some 86), (.pure (.bin .eql)), [.t 85, .c (.int .i64 (Int.ofNat 9))], (some (81, true))⟩,
      ⟨(some 87), (.pure .pick), [.t 81, .t 86, .c (.bool false)], none⟩,
      ⟨(some 88), (.pure .mov), [.t 87], none⟩,
      ⟨(some 89), (.pure .mov), [.t 7], (some (88, true))⟩,
      ⟨(some 90), (.pure (.iaddS 28)), [.t 89, .c (.int .i64 (Int.ofNat 0))], (some (88, true))⟩,
      ⟨(some 91), (.pure (.fadd 1)), [.t 90], (some (88, true))⟩,
      ⟨(some 92), (.read (.load 1 false) []), [.t 91], (some (88, true))⟩,
      ⟨(some 93), (.pure (.bin .eql)), [.t 92, .c (.int .i64 (Int.ofNat 1))], (some (88, true))⟩,
      ⟨(some 94), (.pure .pick), [.t 88, .t 93, .c (.bool false)], none⟩,
      ⟨(some 95), (.pure .mov), [.t 94], none⟩,
      ⟨(some 96), (.pure .mov), [.t 7], (some (95, true))⟩,
      ⟨(some 97), (.pure (.iaddS 28)), [.t 96, .c (.int .i64 (Int.ofNat 0))], (some (95, true))⟩,
      ⟨(some 98), (.pure (.fadd 8)), [.t 97], (some (95, true))⟩,
      ⟨(some 99), (.read (.load 1 false) []), [.t 98], (some (95, true))⟩,
      ⟨(some 100), (.pure (.bin .eql)), [.t 99, .c (.int .i64 (Int.ofNat 7))], (some (95, true))⟩,
      ⟨(some 101), (.pure .pick), [.t 95, .t 100, .c (.bool false)], none⟩,
      ⟨(some 102), (.pure .mov), [.t 101], none⟩,
      ⟨(some 103), (.pure .mov), [.t 9], (some (102, true))⟩,
      ⟨(some 104), (.pure .pick), [.t 102, .t 103, .c (.bool false)], none⟩,
      ⟨(some 105), (.pure .mov), [.t 104], none⟩,
      ⟨(some 106), (.read (.load 13 true) []), [.t 8], (some (105, true))⟩,
      ⟨(some 107), (.pure (.build [(.int .i64 (Int.ofNat 0)), (.int .i64 (Int.ofNat 0)), (.int .i64 (Int.ofNat 0)), (.int .i64 (Int.ofNat 0)), (.string ⟨⟨[]⟩⟩)] [(0, 1), (1, 1), (3, 1)])), [.c (.int .i64 (Int.ofNat 3)), .c (.int .i64 (Int.ofNat 7)), .c (.int .i64 (Int.ofNat 1))], (some (105, true))⟩,
      ⟨(some 108), (.pure (.build [(.int .i64 (Int.ofNat 0)), (.int .i64 (Int.ofNat 0)), (.int .i64 (Int.ofNat 0))] [(1, 1)])), [.c (.int .i64 (Int.ofNat 3))], (some (105, true))⟩,
      ⟨(some 109), (.pure (.build [(.int .i64 (Int.ofNat 0)), (.int .i64 (Int.ofNat 0)), (.int .i64 (Int.ofNat 0)), (.int .i64 (Int.ofNat 0)), (.int .i64 (Int.ofNat 0)), (.int .i64 (Int.ofNat 0)), (.int .i64 (Int.ofNat 0)), (.int .i64 (Int.ofNat 0)), (.string ⟨⟨[]⟩⟩), (.int .i64 (Int.ofNat 0)), (.int .i64 (Int.ofNat 0)), (.int .i64 (Int.ofNat 0)), (.int .i64 (Int.ofNat 0))] [(0, 1), (1, 1), (4, 5), (9, 3), (12, 1)])), [.c (.int .i64 (Int.ofNat 100)), .c (.int .i64 (Int.ofNat 1)), .t 107, .t 108, .c (.int .i64 (Int.ofNat 9))], (some (105, true))⟩,
      ⟨(some 110), (.pure (.aggEq false [.i, .i, .i, .i, .i, .i, .i, .i, .s, .i, .i, .i, .i])), [.t 106, .t 109], (some (105, true))⟩,
      ⟨(some 111), (.pure .pick), [.t 105, .t 110, .c (.bool false)], none⟩,
      ⟨(some 112), (.pure .mov), [.t 111], none⟩,
      ⟨(some 113), (.pure .mov), [.t 11], (some (112, true))⟩,
      ⟨(some 114), (.pure (.un .not)), [.t 113], (some (112, true))⟩,
      ⟨(some 115), (.pure .pick), [.t 112, .t 114, .c (.bool false)], none⟩,
      ⟨(some 116), (.pure .mov), [.t 115], none⟩,
      ⟨(some 117), (.pure .mov), [.t 13], (some (116, true))⟩,
      ⟨(some 118), (.pure (.bin .eql)), [.t 117, .c (.int .i64 (Int.ofNat 1))], (some (116, true))⟩,
      ⟨(some 119), (.pure .pick), [.t 116, .t 118, .c (.bool false)], none⟩,
      ⟨(some 0), (.pure .mov), [.t 119], none⟩] false)
    .ret))))))))))), [.tmp 0]⟩
theorem c9 : (match Try.prog.funcs[9]? with | some fn => compileFn Try.prog 0 [] fn | none => none) = some k9 := by kernel_rfl

/-- (*tompion/client.Client).Call -/
def k10 : DFn := ⟨51, (.seq (.region [
      ⟨(some 4), (.alloc .box), [.t 1], none⟩,
      ⟨(some 6), (.pure .mov), [.c (.slice none 0 0)], none⟩,
      ⟨(some 7), (.pure .mov), [.c (.int .i64 (Int.ofNat 0))], none⟩] false)
    (.seq (.block 0 (.seq (.region [
      ⟨(some 9), (.pure .mov), [.t 0], none⟩,
      ⟨(some 10), (.pure (.nilEq false .ptr)), [.t 9], none⟩,
      ⟨(some 8), (.pure .mov), [.t 10], none⟩] false)
    (.cond (.t 8) (.seq (.region [
      ⟨(some 6), (.pure .mov), [.c (.slice none 0 0)], none⟩,
      ⟨(some 7), (.pure .mov), [.c (.int .i64 (Int.ofNat 12))], none⟩] false)
    .ret)
    (.seq (.region [
      ⟨(some 12), (.pure .mov), [.t 0], none⟩,
      ⟨(some 13), (.pure .nilchk), [.t 12], none⟩,
      ⟨(some 14), (.pure (.fadd 2)), [.t 13], none⟩,
      ⟨(some 15), (.read (.load 1 false) []), [.t 14], none⟩,
      ⟨(some 16), (.pure (.nilEq true .ptr)), [.t 15], none⟩,
      ⟨(some 11), (.pure .mov), [.t 16], none⟩] false)
    (.cond (.t 11) (.seq (.region [
      ⟨(some 6), (.pure .mov), [.c (.slice none 0 0)], none⟩,
      ⟨(some 7), (.pure .mov), [.c (.int .i64 (Int.ofNat 13))], none⟩] false)
    .ret)
    (.seq (.region [
      ⟨(some 18), (.pure (.fadd 0)), [.t 4], none⟩,
      ⟨(some 19), (.read (.load 1 false) []), [.t 18], none⟩,
      ⟨(some 20), (.pure (.bin .lss)), [.t 19, .c (.int .i64 (Int.ofNat 1))], none⟩,
      ⟨(some 21), (.pure .mov), [.t 20], none⟩,
      ⟨(some 22), (.pure (.fadd 0)), [.t 4], (some (21, false))⟩,
      ⟨(some 23), (.read (.load 1 false) []), [.t 22], (some (21, false))⟩,
      ⟨(some 24), (.pure (.bin .gtr)), [.t 23, .c (.int .i64 (Int.ofNat 3))], (some (21, false))⟩,
      ⟨(some 25), (.pure .pick), [.t 21, .c (.bool true), .t 24], none⟩,
      ⟨(some 17), (.pure .mov), [.t 25], none⟩] false)
    (.cond (.t 17) (.seq (.region [
      ⟨(some 6), (.pure .mov), [.c (.slice none 0 0)], none⟩,
      ⟨(some 7), (.pure .mov), [.c (.int .i64 (Int.ofNat 1))], none⟩] false)
    .ret)
    (.seq (.region [
      ⟨(some 27), (.pure (.fadd 4)), [.t 4], none⟩,
      ⟨(some 28), (.read (.load 1 false) []), [.t 27], none⟩,
      ⟨(some 29), (.pure .lenStr), [.t 28], none⟩,
      ⟨(some 30), (.pure (.bin .gtr)), [.t 29, .c (.int .i64 (Int.ofNat 256))], none⟩,
      ⟨(some 26), (.pure .mov), [.t 30], none⟩] false)
    (.cond (.t 26) (.seq (.region [
      ⟨(some 6), (.pure .mov), [.c (.slice none 0 0)], none⟩,
      ⟨(some 7), (.pure .mov), [.c (.int .i64 (Int.ofNat 7))], none⟩] false)
    .ret)
    .skip)))))))))
    (.seq (.region [
      ⟨(some 31), (.pure .mov), [.t 0], none⟩,
      ⟨(some 32), (.pure .nilchk), [.t 31], none⟩,
      ⟨(some 33), (.pure (.fadd 1)), [.t 32], none⟩,
      ⟨(some 34), (.read (.load 1 false) []), [.t 33], none⟩,
      ⟨(some 35), (.pure (.bin .add)), [.t 34, .c (.int .i64 (Int.ofNat 1))], none⟩,
      ⟨(some 36), (.pure .nilchk), [.t 31], none⟩,
      ⟨(some 37), (.pure (.fadd 1)), [.t 36], none⟩,
      ⟨none, (.eff (.store 1)), [.t 37, .t 35], none⟩] false)
    (.seq (.region [
      ⟨(some 38), (.pure .mov), [.t 0], none⟩,
      ⟨(some 39), (.read (.load 5 true) []), [.t 4], none⟩,
      ⟨(some 40), (.pure .mov), [.t 0], none⟩,
      ⟨(some 41), (.pure .nilchk), [.t 40], none⟩,
      ⟨(some 42), (.pure (.fadd 1)), [.t 41], none⟩,
      ⟨(some 43), (.read (.load 1 false) []), [.t 42], none⟩,
      ⟨(some 44), (.pure .mov), [.t 2], none⟩,
      ⟨(some 45), (.pure (.build [(.int .i64 (Int.ofNat 0)), (.int .i64 (Int.ofNat 0)), (.int .i64 (Int.ofNat 0)), (.int .i64 (Int.ofNat 0)), (.string ⟨⟨[]⟩⟩), (.int .i64 (Int.ofNat 0)), (.int .i64 (Int.ofNat 0))] [(0, 5), (5, 1), (6, 1)])), [.t 39, .t 43, .t 44], none⟩,
      ⟨(some 46), (.alloc .box), [.t 45], none⟩,
      ⟨(some 47), (.pure .nilchk), [.t 38], none⟩,
      ⟨(some 48), (.pure (.fadd 2)), [.t 47], none⟩,
      ⟨none, (.eff (.store 1)), [.t 48, .t 46], none⟩] false)
    (.seq (.region [
      ⟨(some 49), (.pure .mov), [.t 0], none⟩,
      ⟨(some 50), (.call 22), [.t 49], none⟩,
      ⟨(some 6), (.pure .mov), [.t 50], none⟩,
      ⟨(some 7), (.pure .mov), [.c (.int .i64 (Int.ofNat 0))], none⟩] false)
    .ret))))), [.tmp 6, .tmp 7]⟩
theorem c10 : (match Try.prog.funcs[10]? with | some fn => compileFn Try.prog 0 [] fn | none => none) = some k10 := by kernel_rfl

/-- (*tompion/client.Client).Take -/
def k11 : DFn := ⟨61, (.seq (.region [
      ⟨(some 4), (.alloc .box), [.t 1], none⟩,
      ⟨(some 6), (.pure .mov), [.c (.slice none 0 0)], none⟩] false)
    (.seq (.seq (.region [
      ⟨(some 7), (.pure .mov), [.t 0], none⟩,
      ⟨(some 8), (.pure (.nilEq false .ptr)), [.t 7], none⟩] false)
    (.cond (.t 8) (.seq (.region [
      ⟨(some 6), (.pure .mov), [.c (.slice none 0 0)], none⟩] false)
    .ret)
    .skip))
    (.seq (.seq (.region [
      ⟨(some 9), (.pure (.fadd 0)), [.t 4], none⟩,
      ⟨(some 10), (.read (.load 1 false) []), [.t 9], none⟩] false)
    (.block 0 (.seq (.region [
      ⟨(some 12), (.pure (.bin .eql)), [.t 10, .c (.int .i64 (Int.ofNat 2))], none⟩,
      ⟨(some 11), (.pure .mov), [.t 12], none⟩] false)
    (.cond (.t 11) (.seq (.seq (.region [
      ⟨(some 13), (.pure (.fadd 24)), [.t 4], none⟩,
      ⟨(some 14), (.read (.load 2 true) []), [.t 13], none⟩,
      ⟨(some 15), (.call 23), [.t 14], none⟩,
      ⟨(some 16), (.pure (.un .not)), [.t 15], none⟩,
      ⟨(some 17), (.pure .mov), [.t 16], none⟩,
      ⟨(some 18), (.pure (.fadd 24)), [.t 4], (some (17, false))⟩,
      ⟨(some 19), (.pure (.fadd 0)), [.t 18], (some (17, false))⟩,
      ⟨(some 20), (.read (.load 1 false) []), [.t 19], (some (17, false))⟩,
      ⟨(some 21), (.pure .mov), [.t 0], (some (17, false))⟩,
      ⟨(some 22), (.pure .nilchk), [.t 21], (some (17, false))⟩,
      ⟨(some 23), (.pure (.fadd 3)), [.t 22], (some (17, false))⟩,
      ⟨(some 24), (.pure (.fadd 0)), [.t 23], (some (17, false))⟩,
      ⟨(some 25), (.read (.load 1 false) []), [.t 24], (some (17, false))⟩,
      ⟨(some 26), (.pure (.bin .leq)), [.t 20, .t 25], (some (17, false))⟩,
      ⟨(some 27), (.pure .pick), [.t 17, .c (.bool true), .t 26], none⟩] false)
    (.cond (.t 27) (.seq (.region [
      ⟨(some 6), (.pure .mov), [.c (.slice none 0 0)], none⟩] false)
    .ret)
    .skip))
    (.seq (.region [
      ⟨(some 28), (.pure .mov), [.t 0], none⟩,
      ⟨(some 29), (.pure (.fadd 24)), [.t 4], none⟩,
      ⟨(some 30), (.pure (.fadd 0)), [.t 29], none⟩,
      ⟨(some 31), (.read (.load 1 false) [8]), [.t 30], none⟩,
      ⟨(some 32), (.pure (.fadd 24)), [.t 4], none⟩,
      ⟨(some 33), (.pure (.fadd 1)), [.t 32], none⟩,
      ⟨(some 34), (.read (.load 1 false) []), [.t 33], none⟩,
      ⟨(some 35), (.call 24), [.t 34], none⟩,
      ⟨(some 36), (.pure (.build [(.int .i64 (Int.ofNat 0)), (.slice none 0 0)] [(0, 1), (1, 1)])), [.t 31, .t 35], none⟩,
      ⟨(some 37), (.pure .nilchk), [.t 28], none⟩,
      ⟨(some 38), (.pure (.fadd 3)), [.t 37], none⟩,
      ⟨none, (.eff (.store 2)), [.t 38, .t 36], none⟩] true)
    (.seq (.region [
      ⟨(some 39), (.pure .mov), [.t 0], none⟩,
      ⟨(some 40), (.pure .nilchk), [.t 39], none⟩,
      ⟨(some 41), (.pure (.fadd 2)), [.t 40], none⟩,
      ⟨(some 42), (.read (.load 1 false) []), [.t 41], none⟩,
      ⟨(some 43), (.pure (.nilEq true .ptr)), [.t 42], none⟩] false)
    (.cond (.t 43) (.seq (.region [
      ⟨(some 44), (.pure .mov), [.t 0], none⟩,
      ⟨(some 45), (.call 22), [.t 44], none⟩,
      ⟨(some 6), (.pure .mov), [.t 45], none⟩] false)
    .ret)
    .skip))))
    (.seq (.seq (.region [
      ⟨(some 47), (.pure (.bin .eql)), [.t 10, .c (.int .i64 (Int.ofNat 8))], none⟩,
      ⟨(some 46), (.pure .mov), [.t 47], none⟩] false)
    (.cond (.t 46) .skip
    (.region [
      ⟨(some 48), (.pure (.bin .eql)), [.t 10, .c (.int .i64 (Int.ofNat 10))], none⟩,
      ⟨(some 46), (.pure .mov), [.t 48], none⟩] false)))
    (.cond (.t 46) (.seq (.region [
      ⟨(some 49), (.pure .mov), [.t 0], none⟩,
      ⟨(some 50), (.call 25), [.t 49, .t 4], none⟩] false)
    (.cond (.t 50) (.region [
      ⟨(some 51), (.pure .mov), [.t 0], none⟩,
      ⟨(some 52), (.pure (.fadd 21)), [.t 4], none⟩,
      ⟨(some 53), (.read (.load 3 true) []), [.t 52], none⟩,
      ⟨(some 54), (.pure (.fadd 5)), [.t 4], none⟩,
      ⟨(some 55), (.read (.load 1 false) []), [.t 54], none⟩,
      ⟨(some 56), (.call 26), [.t 51, .t 53, .t 55], none⟩] false)
    .skip))
    (.seq (.region [
      ⟨(some 58), (.pure (.bin .eql)), [.t 10, .c (.int .i64 (Int.ofNat 14))], none⟩,
      ⟨(some 57), (.pure .mov), [.t 58], none⟩] false)
    (.cond (.t 57) (.region [
      ⟨(some 59), (.pure .mov), [.t 0], none⟩,
      ⟨(some 60), (.call 27), [.t 59, .t 4], none⟩] false)
    .skip))))))))
    (.seq (.region [
      ⟨(some 6), (.pure .mov), [.c (.slice none 0 0)], none⟩] false)
    .ret)))), [.tmp 6]⟩
theorem c11 : (match Try.prog.funcs[11]? with | some fn => compileFn Try.prog 0 [] fn | none => none) = some k11 := by kernel_rfl

/-- (*tompion/client.Client).Pending -/
def k12 : DFn := ⟨20, (.seq (.region [
      ⟨(some 2), (.pure .mov), [.c (.int .i64 (Int.ofNat 0))], none⟩,
      ⟨(some 3), (.pure .mov), [.c (.bool false)], none⟩] false)
    (.seq (.seq (.region [
      ⟨(some 4), (.pure .mov), [.t 0], none⟩,
      ⟨(some 5), (.pure (.nilEq false .ptr)), [.t 4], none⟩,
      ⟨(some 6), (.pure .mov), [.t 5], none⟩,
      ⟨(some 7), (.pure .mov), [.t 0], (some (6, false))⟩,
      ⟨(some 8), (.pure .nilchk), [.t 7], (some (6, false))⟩,
      ⟨(some 9), (.pure (.fadd 2)), [.t 8], (some (6, false))⟩,
      ⟨(some 10), (.read (.load 1 false) []), [.t 9], (some (6, false))⟩,
      ⟨(some 11), (.pure (.nilEq false .ptr)), [.t 10], (some (6, false))⟩,
      ⟨(some 12), (.pure .pick), [.t 6, .c (.bool true), .t 11], none⟩] false)
    (.cond (.t 12) (.seq (.region [
      ⟨(some 2), (.pure .mov), [.c (.int .i64 (Int.ofNat 0))], none⟩,
      ⟨(some 3), (.pure .mov), [.c (.bool false)], none⟩] false)
    .ret)
    .skip))
    (.seq (.region [
      ⟨(some 13), (.pure .mov), [.t 0], none⟩,
      ⟨(some 14), (.pure .nilchk), [.t 13], none⟩,
      ⟨(some 15), (.pure (.fadd 2)), [.t 14], none⟩,
      ⟨(some 16), (.read (.load 1 false) []), [.t 15], none⟩,
      ⟨(some 17), (.pure .nilchk), [.t 16], none⟩,
      ⟨(some 18), (.pure (.fadd 5)), [.t 17], none⟩,
      ⟨(some 19), (.read (.load 1 false) []), [.t 18], none⟩,
      ⟨(some 2), (.pure .mov), [.t 19], none⟩,
      ⟨(some 3), (.pure .mov), [.c (.bool true)], none⟩] false)
    .ret))), [.tmp 2, .tmp 3]⟩
theorem c12 : (match Try.prog.funcs[12]? with | some fn => compileFn Try.prog 0 [] fn | none => none) = some k12 := by kernel_rfl

/-- (*tompion/client.Client).Next -/
def k13 : DFn := ⟨30, (.seq (.region [
      ⟨(some 2), (.alloc (.alloc [(.int .i64 (Int.ofNat 0)), (.int .i64 (Int.ofNat 0)), (.int .i64 (Int.ofNat 0)), (.int .i64 (Int.ofNat 0)), (.int .i64 (Int.ofNat 0)), (.int .i64 (Int.ofNat 0)), (.int .i64 (Int.ofNat 0)), (.int .i64 (Int.ofNat 0)), (.string ⟨⟨[]⟩⟩), (.int .i64 (Int.ofNat 0)), (.int .i64 (Int.ofNat 0)), (.int .i64 (Int.ofNat 0)), (.int .i64 (Int.ofNat 0))])), [], none⟩,
      ⟨(some 3), (.pure .mov), [.c (.bool false)], none⟩] false)
    (.seq (.seq (.region [
      ⟨(some 4), (.pure .mov), [.t 0], none⟩,
      ⟨(some 5), (.pure (.nilEq false .ptr)), [.t 4], none⟩,
      ⟨(some 6), (.pure .mov), [.t 5], none⟩,
      ⟨(some 7), (.pure .mov), [.t 0], (some (6, false))⟩,
      ⟨(some 8), (.pure .nilchk), [.t 7], (some (6, false))⟩,
      ⟨(some 9), (.pure (.fadd 5)), [.t 8], (some (6, false))⟩,
      ⟨(some 10), (.read (.load 1 false) []), [.t 9], (some (6, false))⟩,
      ⟨(some 11), (.pure .lenS), [.t 10], (some (6, false))⟩,
      ⟨(some 12), (.pure (.bin .eql)), [.t 11, .c (.int .i64 (Int.ofNat 0))], (some (6, false))⟩,
      ⟨(some 13), (.pure .pick), [.t 6, .c (.bool true), .t 12], none⟩] false)
    (.cond (.t 13) (.seq (.region [
      ⟨(some 14), (.read (.load 13 true) []), [.t 2], none⟩,
      ⟨none, (.eff (.store 13)), [.t 2, .t 14], none⟩,
      ⟨(some 3), (.pure .mov), [.c (.bool false)], none⟩] false)
    .ret)
    .skip))
    (.seq (.region [
      ⟨(some 15), (.pure .mov), [.t 0], none⟩,
      ⟨(some 16), (.pure .nilchk), [.t 15], none⟩,
      ⟨(some 17), (.pure (.fadd 5)), [.t 16], none⟩,
      ⟨(some 18), (.read (.load 1 false) []), [.t 17], none⟩,
      ⟨(some 19), (.pure (.iaddS 13)), [.t 18, .c (.int .i64 (Int.ofNat 0))], none⟩,
      ⟨(some 20), (.read (.load 13 true) []), [.t 19], none⟩,
      ⟨none, (.eff (.store 13)), [.t 2, .t 20], none⟩] false)
    (.seq (.region [
      ⟨(some 21), (.pure .mov), [.t 0], none⟩,
      ⟨(some 22), (.pure .mov), [.t 0], none⟩,
      ⟨(some 23), (.pure .nilchk), [.t 22], none⟩,
      ⟨(some 24), (.pure (.fadd 5)), [.t 23], none⟩,
      ⟨(some 25), (.read (.load 1 false) []), [.t 24], none⟩,
      ⟨(some 26), (.pure (.slcS 13 true false false)), [.t 25, .c (.int .i64 (Int.ofNat 1))], none⟩,
      ⟨(some 27), (.pure .nilchk), [.t 21], none⟩,
      ⟨(some 28), (.pure (.fadd 5)), [.t 27], none⟩,
      ⟨none, (.eff (.store 1)), [.t 28, .t 26], none⟩] false)
    (.seq (.region [
      ⟨(some 29), (.read (.load 13 true) []), [.t 2], none⟩,
      ⟨none, (.eff (.store 13)), [.t 2, .t 29], none⟩,
      ⟨(some 3), (.pure .mov), [.c (.bool true)], none⟩] false)
    .ret))))), [.cell 2 13 true, .tmp 3]⟩
theorem c13 : (match Try.prog.funcs[13]? with | some fn => compileFn Try.prog 0 [] fn | none => none) = some k13 := by kernel_rfl

end Go.Proofs.Ytfflfehfjgkcdaa.D
