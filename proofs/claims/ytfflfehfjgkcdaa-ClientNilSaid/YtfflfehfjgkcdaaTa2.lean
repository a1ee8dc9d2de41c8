/- The compiled functions of the seat, as the machine "D" runs them (written by a program). No statement of the seat is proved in this text. -/
import Derived.Test.YtfflfehfjgkcdaaDx
import Derived.Test.YtfflfehfjgkcdaaProg
set_option maxRecDepth 100000
namespace Go.Proofs.Ytfflfehfjgkcdaa.D
open Go
/-- (*tompion/client.Client).end -/
def k26 : DFn := ⟨39, (.seq (.region [
      ⟨(some 4), (.alloc .box), [.t 1], none⟩] false)
    (.seq (.region [
      ⟨(some 6), (.pure .mov), [.t 0], none⟩,
      ⟨(some 7), (.pure .mov), [.t 0], none⟩,
      ⟨(some 8), (.pure .nilchk), [.t 7], none⟩,
      ⟨(some 9), (.pure (.fadd 5)), [.t 8], none⟩,
      ⟨(some 10), (.read (.load 1 false) []), [.t 9], none⟩,
      ⟨(some 11), (.pure .mov), [.t 0], none⟩,
      ⟨(some 12), (.pure .nilchk), [.t 11], none⟩,
      ⟨(some 13), (.pure (.fadd 0)), [.t 12], none⟩,
      ⟨(some 14), (.read (.load 1 false) []), [.t 13], none⟩,
      ⟨(some 15), (.pure .mov), [.t 0], none⟩,
      ⟨(some 16), (.pure .nilchk), [.t 15], none⟩,
      ⟨(some 17), (.pure (.fadd 2)), [.t 16], none⟩,
      ⟨(some 18), (.read (.load 1 false) []), [.t 17], none⟩,
      ⟨(some 19), (.pure .nilchk), [.t 18], none⟩,
      ⟨(some 20), (.pure (.fadd 5)), [.t 19], none⟩,
      ⟨(some 21), (.read (.load 1 false) []), [.t 20], none⟩,
      ⟨(some 22), (.pure .mov), [.t 0], none⟩,
      ⟨(some 23), (.pure .nilchk), [.t 22], none⟩,
      ⟨(some 24), (.pure (.fadd 2)), [.t 23], none⟩,
      ⟨(some 25), (.read (.load 1 false) []), [.t 24], none⟩,
      ⟨(some 26), (.pure .nilchk), [.t 25], none⟩,
      ⟨(some 27), (.pure (.fadd 0)), [.t 26], none⟩,
      ⟨(some 28), (.read (.load 5 true) []), [.t 27], none⟩,
      ⟨(some 29), (.read (.load 3 true) []), [.t 4], none⟩,
      ⟨(some 30), (.pure .mov), [.t 2], none⟩,
      ⟨(some 31), (.pure (.build [(.int .i64 (Int.ofNat 0)), (.int .i64 (Int.ofNat 0)), (.int .i64 (Int.ofNat 0)), (.int .i64 (Int.ofNat 0)), (.int .i64 (Int.ofNat 0)), (.int .i64 (Int.ofNat 0)), (.int .i64 (Int.ofNat 0)), (.int .i64 (Int.ofNat 0)), (.string ⟨⟨[]⟩⟩), (.int .i64 (Int.ofNat 0)), (.int .i64 (Int.ofNat 0)), (.int .i64 (Int.ofNat 0)), (.int .i64 (Int.ofNat 0))] [(0, 1), (1, 1), (4, 5), (9, 3), (12, 1)])), [.t 14, .t 21, .t 28, .t 29, .t 30], none⟩,
      ⟨(some 32), (.alloc (.bslice [(.int .i64 (Int.ofNat 0)), (.int .i64 (Int.ofNat 0)), (.int .i64 (Int.ofNat 0)), (.int .i64 (Int.ofNat 0)), (.int .i64 (Int.ofNat 0)), (.int .i64 (Int.ofNat 0)), (.int .i64 (Int.ofNat 0)), (.int .i64 (Int.ofNat 0)), (.string ⟨⟨[]⟩⟩), (.int .i64 (Int.ofNat 0)), (.int .i64 (Int.ofNat 0)), (.int .i64 (Int.ofNat 0)), (.int .i64 (Int.ofNat 0))] [(0, 13)] 13 1)), [.t 31], none⟩,
      ⟨(some 33), (.eff (.app 13 112)), [.t 10, .t 32], none⟩,
      ⟨(some 34), (.pure .nilchk), [.t 6], none⟩,
      ⟨(some 35), (.pure (.fadd 5)), [.t 34], none⟩,
      ⟨none, (.eff (.store 1)), [.t 35, .t 33], none⟩] false)
    (.region [
      ⟨(some 36), (.pure .mov), [.t 0], none⟩,
      ⟨(some 37), (.pure .nilchk), [.t 36], none⟩,
      ⟨(some 38), (.pure (.fadd 2)), [.t 37], none⟩,
      ⟨none, (.eff (.store 1)), [.t 38, .c (.pointer none)], none⟩] false))), []⟩
theorem c26 : (match Try.prog.funcs[26]? with | some fn => compileFn Try.prog 0 [] fn | none => none) = some k26 := by kernel_rfl

/-- (*tompion/client.Client).hand -/
def k27 : DFn := ⟨70, (.seq (.seq (.region [
      ⟨(some 6), (.pure .mov), [.t 1], none⟩,
      ⟨(some 7), (.pure .nilchk), [.t 6], none⟩,
      ⟨(some 8), (.pure (.fadd 26)), [.t 7], none⟩,
      ⟨(some 9), (.read (.load 1 false) []), [.t 8], none⟩,
      ⟨(some 10), (.pure .lenS), [.t 9], none⟩,
      ⟨(some 11), (.pure .mov), [.c (.int .i64 (Int.ofNat 0))], none⟩] false)
    (.block 0 (.loop none (.seq (.region [
      ⟨(some 12), (.pure (.bin .lss)), [.t 11, .t 10], none⟩] false)
    (.seq (.cond (.t 12) .skip
    (.exit 0))
    (.seq (.block 1 (.seq (.region [
      ⟨(some 13), (.pure (.iaddS 6)), [.t 9, .t 11], none⟩,
      ⟨(some 14), (.read (.load 6 true) []), [.t 13], none⟩,
      ⟨(some 5), (.alloc (.alloc [(.int .i64 (Int.ofNat 0)), (.int .i64 (Int.ofNat 0)), (.int .i64 (Int.ofNat 0)), (.int .i64 (Int.ofNat 0)), (.int .i64 (Int.ofNat 0)), (.int .i64 (Int.ofNat 0))])), [], none⟩,
      ⟨none, (.eff (.store 6)), [.t 5, .t 14], none⟩] false)
    (.seq (.region [
      ⟨(some 15), (.pure (.fadd 1)), [.t 5], none⟩,
      ⟨(some 16), (.read (.load 1 false) []), [.t 15], none⟩,
      ⟨(some 17), (.pure .mov), [.t 0], none⟩,
      ⟨(some 18), (.pure .nilchk), [.t 17], none⟩,
      ⟨(some 19), (.pure (.fadd 0)), [.t 18], none⟩,
      ⟨(some 20), (.read (.load 1 false) []), [.t 19], none⟩,
      ⟨(some 21), (.pure (.bin .eql)), [.t 16, .t 20], none⟩,
      ⟨(some 22), (.pure .mov), [.t 21], none⟩,
      ⟨(some 23), (.pure (.fadd 0)), [.t 5], (some (22, true))⟩,
      ⟨(some 24), (.read (.load 1 false) []), [.t 23], (some (22, true))⟩,
      ⟨(some 25), (.pure .mov), [.t 0], (some (22, true))⟩,
      ⟨(some 26), (.pure .nilchk), [.t 25], (some (22, true))⟩,
      ⟨(some 27), (.pure (.fadd 8)), [.t 26], (some (22, true))⟩,
      ⟨(some 28), (.read (.load 1 false) []), [.t 27], (some (22, true))⟩,
      ⟨(some 29), (.pure (.bin .gtr)), [.t 24, .t 28], (some (22, true))⟩,
      ⟨(some 30), (.pure .pick), [.t 22, .t 29, .c (.bool false)], none⟩,
      ⟨(some 31), (.pure .mov), [.t 30], none⟩,
      ⟨(some 32), (.pure .mov), [.t 0], (some (31, true))⟩,
      ⟨(some 33), (.pure .nilchk), [.t 32], (some (31, true))⟩,
      ⟨(some 34), (.pure (.fadd 7)), [.t 33], (some (31, true))⟩,
      ⟨(some 35), (.read (.load 1 false) []), [.t 34], (some (31, true))⟩,
      ⟨(some 36), (.pure (.fadd 0)), [.t 5], (some (31, true))⟩,
      ⟨(some 37), (.read (.load 1 false) []), [.t 36], (some (31, true))⟩,
      ⟨(some 38), (.read (.lookup (.one .i) (.bool false) false) []), [.t 35, .t 37], (some (31, true))⟩,
      ⟨(some 39), (.pure (.un .not)), [.t 38], (some (31, true))⟩,
      ⟨(some 40), (.pure .pick), [.t 31, .t 39, .c (.bool false)], none⟩] false)
    (.cond (.t 40) (.seq (.region [
      ⟨(some 41), (.pure .mov), [.t 0], none⟩,
      ⟨(some 42), (.pure .nilchk), [.t 41], none⟩,
      ⟨(some 43), (.pure (.fadd 7)), [.t 42], none⟩,
      ⟨(some 44), (.read (.load 1 false) []), [.t 43], none⟩,
      ⟨(some 45), (.pure (.fadd 0)), [.t 5], none⟩,
      ⟨(some 46), (.read (.load 1 false) []), [.t 45], none⟩,
      ⟨none, (.eff (.mupd (.one .i))), [.t 44, .t 46, .c (.bool true)], none⟩] false)
    (.region [
      ⟨(some 47), (.pure .mov), [.t 0], none⟩,
      ⟨(some 48), (.pure .mov), [.t 0], none⟩,
      ⟨(some 49), (.pure .nilchk), [.t 48], none⟩,
      ⟨(some 50), (.pure (.fadd 6)), [.t 49], none⟩,
      ⟨(some 51), (.read (.load 1 false) []), [.t 50], none⟩,
      ⟨(some 52), (.read (.load 6 true) []), [.t 5], none⟩,
      ⟨(some 53), (.alloc (.bslice [(.int .i64 (Int.ofNat 0)), (.int .i64 (Int.ofNat 0)), (.int .i64 (Int.ofNat 0)), (.int .i64 (Int.ofNat 0)), (.int .i64 (Int.ofNat 0)), (.int .i64 (Int.ofNat 0))] [(0, 6)] 6 1)), [.t 52], none⟩,
      ⟨(some 54), (.eff (.app 6 48)), [.t 51, .t 53], none⟩,
      ⟨(some 55), (.pure .nilchk), [.t 47], none⟩,
      ⟨(some 56), (.pure (.fadd 6)), [.t 55], none⟩,
      ⟨none, (.eff (.store 1)), [.t 56, .t 54], none⟩] false))
    .skip))))
    (.region [
      ⟨(some 57), (.pure (.bin .add)), [.t 11, .c (.int .i64 (Int.ofNat 1))], none⟩,
      ⟨(some 11), (.pure .mov), [.t 57], none⟩] false)))))))
    (.region [
      ⟨(some 58), (.pure .mov), [.t 0], none⟩,
      ⟨(some 59), (.pure .mov), [.t 0], none⟩,
      ⟨(some 60), (.pure .nilchk), [.t 59], none⟩,
      ⟨(some 61), (.pure (.fadd 8)), [.t 60], none⟩,
      ⟨(some 62), (.read (.load 1 false) []), [.t 61], none⟩,
      ⟨(some 63), (.pure .mov), [.t 1], none⟩,
      ⟨(some 64), (.pure .nilchk), [.t 63], none⟩,
      ⟨(some 65), (.pure (.fadd 5)), [.t 64], none⟩,
      ⟨(some 66), (.read (.load 1 false) []), [.t 65], none⟩,
      ⟨(some 67), (.pure .max), [.t 62, .t 66], none⟩,
      ⟨(some 68), (.pure .nilchk), [.t 58], none⟩,
      ⟨(some 69), (.pure (.fadd 8)), [.t 68], none⟩,
      ⟨none, (.eff (.store 1)), [.t 69, .t 67], none⟩] false)), []⟩
theorem c27 : (match Try.prog.funcs[27]? with | some fn => compileFn Try.prog 0 [] fn | none => none) = some k27 := by kernel_rfl

/-- slices.Clone[[]tompion/api.Fire,tompion/api.Fire] -/
def k28 : DFn := ⟨8, (.seq (.region [
      ⟨(some 2), (.pure .mov), [.c (.slice none 0 0)], none⟩] false)
    (.seq (.seq (.region [
      ⟨(some 3), (.pure .mov), [.t 0], none⟩,
      ⟨(some 4), (.pure (.nilEq false .slice)), [.t 3], none⟩] false)
    (.cond (.t 4) (.seq (.region [
      ⟨(some 2), (.pure .mov), [.c (.slice none 0 0)], none⟩] false)
    .ret)
    .skip))
    (.seq (.region [
      ⟨(some 5), (.alloc (.bslice [] [] 6 0)), [], none⟩,
      ⟨(some 6), (.pure .mov), [.t 0], none⟩,
      ⟨(some 7), (.eff (.app 6 48)), [.t 5, .t 6], none⟩,
      ⟨(some 2), (.pure .mov), [.t 7], none⟩] false)
    .ret))), [.tmp 2]⟩
theorem c28 : (match Try.prog.funcs[28]? with | some fn => compileFn Try.prog 0 [] fn | none => none) = some k28 := by kernel_rfl

/-- tompion/tompionref11.may -/
def k29 : DFn := ⟨21, (.seq (.region [
      ⟨(some 1), (.alloc .box), [.t 0], none⟩,
      ⟨(some 2), (.pure .mov), [.c (.bool false)], none⟩] false)
    (.seq (.region [
      ⟨(some 3), (.pure (.fadd 0)), [.t 1], none⟩,
      ⟨(some 4), (.read (.load 1 false) []), [.t 3], none⟩,
      ⟨(some 5), (.pure (.bin .geq)), [.t 4, .c (.int .i64 (Int.ofNat 0))], none⟩,
      ⟨(some 6), (.pure .mov), [.t 5], none⟩,
      ⟨(some 7), (.pure (.fadd 0)), [.t 1], (some (6, true))⟩,
      ⟨(some 8), (.read (.load 1 false) []), [.t 7], (some (6, true))⟩,
      ⟨(some 9), (.pure (.bin .leq)), [.t 8, .c (.int .i64 (Int.ofNat 7))], (some (6, true))⟩,
      ⟨(some 10), (.pure .pick), [.t 6, .t 9, .c (.bool false)], none⟩,
      ⟨(some 11), (.pure .mov), [.t 10], none⟩,
      ⟨(some 12), (.pure (.fadd 1)), [.t 1], (some (11, true))⟩,
      ⟨(some 13), (.read (.load 1 false) []), [.t 12], (some (11, true))⟩,
      ⟨(some 14), (.pure (.bin .geq)), [.t 13, .c (.int .i64 (Int.ofNat 1))], (some (11, true))⟩,
      ⟨(some 15), (.pure .pick), [.t 11, .t 14, .c (.bool false)], none⟩,
      ⟨(some 16), (.pure .mov), [.t 15], none⟩,
      ⟨(some 17), (.pure (.fadd 1)), [.t 1], (some (16, true))⟩,
      ⟨(some 18), (.read (.load 1 false) []), [.t 17], (some (16, true))⟩,
      ⟨(some 19), (.pure (.bin .leq)), [.t 18, .c (.int .i64 (Int.ofNat 1099511627776))], (some (16, true))⟩,
      ⟨(some 20), (.pure .pick), [.t 16, .t 19, .c (.bool false)], none⟩,
      ⟨(some 2), (.pure .mov), [.t 20], none⟩] false)
    .ret)), [.tmp 2]⟩
theorem c29 : (match Try.prog.funcs[29]? with | some fn => compileFn Try.prog 0 [] fn | none => none) = some k29 := by kernel_rfl

/-- (*tompion/client.Client).from -/
def k30 : DFn := ⟨15, (.seq (.region [
      ⟨(some 6), (.alloc (.alloc [(.int .i64 (Int.ofNat 0)), (.int .i64 (Int.ofNat 0)), (.int .i64 (Int.ofNat 0)), (.int .i64 (Int.ofNat 0)), (.int .i64 (Int.ofNat 0)), (.int .i64 (Int.ofNat 0)), (.int .i64 (Int.ofNat 0)), (.int .i64 (Int.ofNat 0)), (.int .i64 (Int.ofNat 0)), (.int .i64 (Int.ofNat 0)), (.bool false), (.int .i64 (Int.ofNat 0)), (.int .i64 (Int.ofNat 0)), (.int .i64 (Int.ofNat 0)), (.int .i64 (Int.ofNat 0)), (.int .i64 (Int.ofNat 0)), (.int .i64 (Int.ofNat 0)), (.int .i64 (Int.ofNat 0)), (.int .i64 (Int.ofNat 0)), (.int .i64 (Int.ofNat 0)), (.string ⟨⟨[]⟩⟩), (.int .i64 (Int.ofNat 0)), (.int .i64 (Int.ofNat 0)), (.int .i64 (Int.ofNat 0)), (.int .i64 (Int.ofNat 0)), (.slice none 0 0), (.slice none 0 0), (.int .i64 (Int.ofNat 0))])), [], none⟩] false)
    (.seq (.region [
      ⟨(some 7), (.pure .mov), [.t 1], none⟩,
      ⟨(some 8), (.pure .mov), [.t 2], none⟩,
      ⟨(some 9), (.pure .mov), [.t 0], none⟩,
      ⟨(some 10), (.pure .nilchk), [.t 9], none⟩,
      ⟨(some 11), (.pure (.fadd 0)), [.t 10], none⟩,
      ⟨(some 12), (.read (.load 1 false) []), [.t 11], none⟩,
      ⟨(some 13), (.pure (.build [(.int .i64 (Int.ofNat 0)), (.int .i64 (Int.ofNat 0))] [(0, 1)])), [.t 12], none⟩,
      ⟨(some 14), (.pure (.build [(.int .i64 (Int.ofNat 0)), (.int .i64 (Int.ofNat 0)), (.int .i64 (Int.ofNat 0)), (.int .i64 (Int.ofNat 0)), (.int .i64 (Int.ofNat 0)), (.int .i64 (Int.ofNat 0)), (.int .i64 (Int.ofNat 0)), (.int .i64 (Int.ofNat 0)), (.int .i64 (Int.ofNat 0)), (.int .i64 (Int.ofNat 0)), (.bool false), (.int .i64 (Int.ofNat 0)), (.int .i64 (Int.ofNat 0)), (.int .i64 (Int.ofNat 0)), (.int .i64 (Int.ofNat 0)), (.int .i64 (Int.ofNat 0)), (.int .i64 (Int.ofNat 0)), (.int .i64 (Int.ofNat 0)), (.int .i64 (Int.ofNat 0)), (.int .i64 (Int.ofNat 0)), (.string ⟨⟨[]⟩⟩), (.int .i64 (Int.ofNat 0)), (.int .i64 (Int.ofNat 0)), (.int .i64 (Int.ofNat 0)), (.int .i64 (Int.ofNat 0)), (.slice none 0 0), (.slice none 0 0), (.int .i64 (Int.ofNat 0))] [(0, 1), (1, 1), (2, 2)])), [.t 7, .t 8, .t 13], none⟩,
      ⟨none, (.eff (.store 28)), [.t 6, .t 14], none⟩] false)
    .ret)), [.cell 6 28 true]⟩
theorem c30 : (match Try.prog.funcs[30]? with | some fn => compileFn Try.prog 0 [] fn | none => none) = some k30 := by kernel_rfl

/-- tompion/config.Tail -/
def k31 : DFn := ⟨11, (.seq (.region [
      ⟨(some 1), (.alloc .box), [.t 0], none⟩,
      ⟨(some 2), (.alloc (.alloc [(.int .i64 (Int.ofNat 0)), (.int .i64 (Int.ofNat 0))])), [], none⟩,
      ⟨(some 3), (.pure .mov), [.c (.bool false)], none⟩] false)
    (.seq (.region [
      ⟨(some 4), (.pure (.fadd 1)), [.t 1], none⟩,
      ⟨(some 5), (.read (.load 1 false) []), [.t 4], none⟩,
      ⟨(some 6), (.pure .lenS), [.t 5], none⟩,
      ⟨(some 7), (.pure (.bin .sub)), [.t 6, .c (.int .i64 (Int.ofNat 1))], none⟩,
      ⟨(some 8), (.call 34), [.t 1, .t 7], none⟩,
      ⟨(some 9), (.pure (.extract 0)), [.t 8], none⟩,
      ⟨(some 10), (.pure (.extract 1)), [.t 8], none⟩,
      ⟨none, (.eff (.store 2)), [.t 2, .t 9], none⟩,
      ⟨(some 3), (.pure .mov), [.t 10], none⟩] false)
    .ret)), [.cell 2 2 true, .tmp 3]⟩
theorem c31 : (match Try.prog.funcs[31]? with | some fn => compileFn Try.prog 0 [] fn | none => none) = some k31 := by kernel_rfl

/-- tompion/config.Head -/
def k32 : DFn := ⟨7, (.seq (.region [
      ⟨(some 1), (.alloc .box), [.t 0], none⟩,
      ⟨(some 2), (.alloc (.alloc [(.int .i64 (Int.ofNat 0)), (.int .i64 (Int.ofNat 0))])), [], none⟩,
      ⟨(some 3), (.pure .mov), [.c (.bool false)], none⟩] false)
    (.seq (.region [
      ⟨(some 4), (.call 34), [.t 1, .c (.int .i64 (Int.ofNat 0))], none⟩,
      ⟨(some 5), (.pure (.extract 0)), [.t 4], none⟩,
      ⟨(some 6), (.pure (.extract 1)), [.t 4], none⟩,
      ⟨none, (.eff (.store 2)), [.t 2, .t 5], none⟩,
      ⟨(some 3), (.pure .mov), [.t 6], none⟩] false)
    .ret)), [.cell 2 2 true, .tmp 3]⟩
theorem c32 : (match Try.prog.funcs[32]? with | some fn => compileFn Try.prog 0 [] fn | none => none) = some k32 := by kernel_rfl

/-- tompion/config.may -/
def k33 : DFn := ⟨21, (.seq (.region [
      ⟨(some 1), (.alloc .box), [.t 0], none⟩,
      ⟨(some 2), (.pure .mov), [.c (.bool false)], none⟩] false)
    (.seq (.region [
      ⟨(some 3), (.pure (.fadd 0)), [.t 1], none⟩,
      ⟨(some 4), (.read (.load 1 false) []), [.t 3], none⟩,
      ⟨(some 5), (.pure (.bin .geq)), [.t 4, .c (.int .i64 (Int.ofNat 0))], none⟩,
      ⟨(some 6), (.pure .mov), [.t 5], none⟩,
      ⟨(some 7), (.pure (.fadd 0)), [.t 1], (some (6, true))⟩,
      ⟨(some 8), (.read (.load 1 false) []), [.t 7], (some (6, true))⟩,
      ⟨(some 9), (.pure (.bin .lss)), [.t 8, .c (.int .i64 (Int.ofNat 8))], (some (6, true))⟩,
      ⟨(some 10), (.pure .pick), [.t 6, .t 9, .c (.bool false)], none⟩,
      ⟨(some 11), (.pure .mov), [.t 10], none⟩,
      ⟨(some 12), (.pure (.fadd 1)), [.t 1], (some (11, true))⟩,
      ⟨(some 13), (.read (.load 1 false) []), [.t 12], (some (11, true))⟩,
      ⟨(some 14), (.pure (.bin .geq)), [.t 13, .c (.int .i64 (Int.ofNat 1))], (some (11, true))⟩,
      ⟨(some 15), (.pure .pick), [.t 11, .t 14, .c (.bool false)], none⟩,
      ⟨(some 16), (.pure .mov), [.t 15], none⟩,
      ⟨(some 17), (.pure (.fadd 1)), [.t 1], (some (16, true))⟩,
      ⟨(some 18), (.read (.load 1 false) []), [.t 17], (some (16, true))⟩,
      ⟨(some 19), (.pure (.bin .leq)), [.t 18, .c (.int .i64 (Int.ofNat 1099511627776))], (some (16, true))⟩,
      ⟨(some 20), (.pure .pick), [.t 16, .t 19, .c (.bool false)], none⟩,
      ⟨(some 2), (.pure .mov), [.t 20], none⟩] false)
    .ret)), [.tmp 2]⟩
theorem c33 : (match Try.prog.funcs[33]? with | some fn => compileFn Try.prog 0 [] fn | none => none) = some k33 := by kernel_rfl

/-- tompion/config.at -/
def k34 : DFn := ⟨26, (.seq (.region [
      ⟨(some 4), (.alloc (.alloc [(.int .i64 (Int.ofNat 0)), (.int .i64 (Int.ofNat 0))])), [], none⟩,
      ⟨(some 5), (.pure .mov), [.c (.bool false)], none⟩] false)
    (.seq (.seq (.region [
      ⟨(some 6), (.pure .mov), [.t 1], none⟩,
      ⟨(some 7), (.pure (.bin .lss)), [.t 6, .c (.int .i64 (Int.ofNat 0))], none⟩,
      ⟨(some 8), (.pure .mov), [.t 7], none⟩,
      ⟨(some 9), (.pure .mov), [.t 1], (some (8, false))⟩,
      ⟨(some 10), (.pure .mov), [.t 0], (some (8, false))⟩,
      ⟨(some 11), (.pure .nilchk), [.t 10], (some (8, false))⟩,
      ⟨(some 12), (.pure (.fadd 1)), [.t 11], (some (8, false))⟩,
      ⟨(some 13), (.read (.load 1 false) []), [.t 12], (some (8, false))⟩,
      ⟨(some 14), (.pure .lenS), [.t 13], (some (8, false))⟩,
      ⟨(some 15), (.pure (.bin .geq)), [.t 9, .t 14], (some (8, false))⟩,
      ⟨(some 16), (.pure .pick), [.t 8, .c (.bool true), .t 15], none⟩] false)
    (.cond (.t 16) (.seq (.region [
      ⟨(some 17), (.read (.load 2 true) []), [.t 4], none⟩,
      ⟨none, (.eff (.store 2)), [.t 4, .t 17], none⟩,
      ⟨(some 5), (.pure .mov), [.c (.bool false)], none⟩] false)
    .ret)
    .skip))
    (.seq (.region [
      ⟨(some 18), (.pure .mov), [.t 0], none⟩,
      ⟨(some 19), (.pure .nilchk), [.t 18], none⟩,
      ⟨(some 20), (.pure (.fadd 1)), [.t 19], none⟩,
      ⟨(some 21), (.read (.load 1 false) []), [.t 20], none⟩,
      ⟨(some 22), (.pure .mov), [.t 1], none⟩,
      ⟨(some 23), (.pure (.iaddS 3)), [.t 21, .t 22], none⟩,
      ⟨(some 24), (.pure (.fadd 0)), [.t 23], none⟩,
      ⟨(some 25), (.read (.load 2 true) []), [.t 24], none⟩,
      ⟨none, (.eff (.store 2)), [.t 4, .t 25], none⟩,
      ⟨(some 5), (.pure .mov), [.c (.bool true)], none⟩] false)
    .ret))), [.cell 4 2 true, .tmp 5]⟩
theorem c34 : (match Try.prog.funcs[34]? with | some fn => compileFn Try.prog 0 [] fn | none => none) = some k34 := by kernel_rfl

end Go.Proofs.Ytfflfehfjgkcdaa.D
