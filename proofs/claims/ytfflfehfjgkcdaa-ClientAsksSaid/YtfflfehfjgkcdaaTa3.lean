/- The compiled functions of the seat, as the machine "D" runs them, and what each comes to (written by a program). No statement of the seat is proved in this text. -/
import Derived.Test.YtfflfehfjgkcdaaDz
import Derived.Test.YtfflfehfjgkcdaaProg
set_option maxRecDepth 100000
set_option linter.unusedVariables false
namespace Go.Proofs.Ytfflfehfjgkcdaa.D
open Go
/-- (*tompion/client.Client).end -/
def c26_1 : C := (.region [
      ⟨(some 36), (.pure .mov), [.t 0], none⟩,
      ⟨(some 37), (.pure .nilchk), [.t 36], none⟩,
      ⟨(some 38), (.pure (.fadd 2)), [.t 37], none⟩,
      ⟨none, (.eff (.store 1)), [.t 38, .c (.pointer none)], none⟩] false)
def c26_0 : C := (.seq (.region [
      ⟨(some 6), (.pure .mov), [.t 0], none⟩,
      ⟨(some 7), (.pure .mov), [.t 0], none⟩,
      ⟨(some 8), (.pure .nilchk), [.t 7], none⟩,
      ⟨(some 9), (.pure (.fadd 5)), [.t 8], none⟩,
      ⟨(some 10), (.read (.load 1 false) []), [.t 9], none⟩,
      ⟨(some 11), (.pure .mov), [.t 0], none⟩,
      ⟨(some 12), (.pure .nilchk), [.t 11], none⟩,
      ⟨(some 13), (.pure (.fadd 0)), [.t 12], none⟩,
      ⟨(some 14), (.read (.load 1 false) []), [.t 13], none⟩,
      ⟨(some 15), (.pure .mov), [.t 0], none⟩,
      ⟨(some 16), (.pure .nilchk), [.t 15], none⟩,
      ⟨(some 17), (.pure (.fadd 2)), [.t 16], none⟩,
      ⟨(some 18), (.read (.load 1 false) []), [.t 17], none⟩,
      ⟨(some 19), (.pure .nilchk), [.t 18], none⟩,
      ⟨(some 20), (.pure (.fadd 5)), [.t 19], none⟩,
      ⟨(some 21), (.read (.load 1 false) []), [.t 20], none⟩,
      ⟨(some 22), (.pure .mov), [.t 0], none⟩,
      ⟨(some 23), (.pure .nilchk), [.t 22], none⟩,
      ⟨(some 24), (.pure (.fadd 2)), [.t 23], none⟩,
      ⟨(some 25), (.read (.load 1 false) []), [.t 24], none⟩,
      ⟨(some 26), (.pure .nilchk), [.t 25], none⟩,
      ⟨(some 27), (.pure (.fadd 0)), [.t 26], none⟩,
      ⟨(some 28), (.read (.load 5 true) []), [.t 27], none⟩,
      ⟨(some 29), (.read (.load 3 true) []), [.t 4], none⟩,
      ⟨(some 30), (.pure .mov), [.t 2], none⟩,
      ⟨(some 31), (.pure (.build [(.int .i64 (Int.ofNat 0)), (.int .i64 (Int.ofNat 0)), (.int .i64 (Int.ofNat 0)), (.int .i64 (Int.ofNat 0)), (.int .i64 (Int.ofNat 0)), (.int .i64 (Int.ofNat 0)), (.int .i64 (Int.ofNat 0)), (.int .i64 (Int.ofNat 0)), (.string ⟨⟨[]⟩⟩), (.int .i64 (Int.ofNat 0)), (.int .i64 (Int.ofNat 0)), (.int .i64 (Int.ofNat 0)), (.int .i64 (Int.ofNat 0))] [(0, 1), (1, 1), (4, 5), (9, 3), (12, 1)])), [.t 14, .t 21, .t 28, .t 29, .t 30], none⟩,
      ⟨(some 32), (.alloc (.bslice [(.int .i64 (Int.ofNat 0)), (.int .i64 (Int.ofNat 0)), (.int .i64 (Int.ofNat 0)), (.int .i64 (Int.ofNat 0)), (.int .i64 (Int.ofNat 0)), (.int .i64 (Int.ofNat 0)), (.int .i64 (Int.ofNat 0)), (.int .i64 (Int.ofNat 0)), (.string ⟨⟨[]⟩⟩), (.int .i64 (Int.ofNat 0)), (.int .i64 (Int.ofNat 0)), (.int .i64 (Int.ofNat 0)), (.int .i64 (Int.ofNat 0))] [(0, 13)] 13 1)), [.t 31], none⟩,
      ⟨(some 33), (.eff (.app 13 112)), [.t 10, .t 32], none⟩,
      ⟨(some 34), (.pure .nilchk), [.t 6], none⟩,
      ⟨(some 35), (.pure (.fadd 5)), [.t 34], none⟩,
      ⟨none, (.eff (.store 1)), [.t 35, .t 33], none⟩] false) c26_1)
def k26 : DFn := ⟨39, (.seq (.region [
      ⟨(some 4), (.alloc .box), [.t 1], none⟩] false) c26_0), []⟩
theorem c26 : (match Try.prog.funcs[26]? with | some fn => compileFn Try.prog 0 [none, none] fn | none => none) = some k26 := by kernel_rfl
theorem e26 (tb : Nat → Option DFn) (nv : CallF) (a0 a1 a2 : Value) (H : Heap) (Q : Value → Heap → Prop) : wFn tb nv k26 [a0, a1, a2] H Q = (
    wA .box [a1] H fun x0 H1 =>
    wP .nilchk [a0] fun x2 =>
    wP (.fadd 5) [x2] fun x3 =>
    wR (.load 1 false) [x3] H1 fun x4 =>
    wP .nilchk [a0] fun x5 =>
    wP (.fadd 0) [x5] fun x6 =>
    wR (.load 1 false) [x6] H1 fun x7 =>
    wP .nilchk [a0] fun x8 =>
    wP (.fadd 2) [x8] fun x9 =>
    wR (.load 1 false) [x9] H1 fun x10 =>
    wP .nilchk [x10] fun x11 =>
    wP (.fadd 5) [x11] fun x12 =>
    wR (.load 1 false) [x12] H1 fun x13 =>
    wP .nilchk [a0] fun x14 =>
    wP (.fadd 2) [x14] fun x15 =>
    wR (.load 1 false) [x15] H1 fun x16 =>
    wP .nilchk [x16] fun x17 =>
    wP (.fadd 0) [x17] fun x18 =>
    wR (.load 5 true) [x18] H1 fun x19 =>
    wR (.load 3 true) [x0] H1 fun x20 =>
    wP (.build [(.int .i64 0), (.int .i64 0), (.int .i64 0), (.int .i64 0), (.int .i64 0), (.int .i64 0), (.int .i64 0), (.int .i64 0), (.string ⟨⟨[]⟩⟩), (.int .i64 0), (.int .i64 0), (.int .i64 0), (.int .i64 0)] [(0, 1), (1, 1), (4, 5), (9, 3), (12, 1)]) [x7, x13, x19, x20, a2] fun x21 =>
    wA (.bslice [(.int .i64 0), (.int .i64 0), (.int .i64 0), (.int .i64 0), (.int .i64 0), (.int .i64 0), (.int .i64 0), (.int .i64 0), (.string ⟨⟨[]⟩⟩), (.int .i64 0), (.int .i64 0), (.int .i64 0), (.int .i64 0)] [(0, 13)] 13 1) [x21] H1 fun x22 H23 =>
    wE (.app 13 112) [x4, x22] H23 fun x24 H25 =>
    wP .nilchk [a0] fun x26 =>
    wP (.fadd 5) [x26] fun x27 =>
    wE (.store 1) [x27, x24] H25 fun x28 H29 =>
    wP .nilchk [a0] fun x30 =>
    wP (.fadd 2) [x30] fun x31 =>
    wE (.store 1) [x31, (.pointer none)] H29 fun x32 H33 =>
    Q (.tuple ⟨[]⟩) H33) := by kernel_rfl

/-- (*tompion/client.Client).hand -/
def c27_13 : C := (.region [
      ⟨(some 58), (.pure .mov), [.t 0], none⟩,
      ⟨(some 59), (.pure .mov), [.t 0], none⟩,
      ⟨(some 60), (.pure .nilchk), [.t 59], none⟩,
      ⟨(some 61), (.pure (.fadd 8)), [.t 60], none⟩,
      ⟨(some 62), (.read (.load 1 false) []), [.t 61], none⟩,
      ⟨(some 63), (.pure .mov), [.t 1], none⟩,
      ⟨(some 64), (.pure .nilchk), [.t 63], none⟩,
      ⟨(some 65), (.pure (.fadd 5)), [.t 64], none⟩,
      ⟨(some 66), (.read (.load 1 false) []), [.t 65], none⟩,
      ⟨(some 67), (.pure .max), [.t 62, .t 66], none⟩,
      ⟨(some 68), (.pure .nilchk), [.t 58], none⟩,
      ⟨(some 69), (.pure (.fadd 8)), [.t 68], none⟩,
      ⟨none, (.eff (.store 1)), [.t 69, .t 67], none⟩] false)
def c27_0 : C := (.keep [0, 1] c27_13)
def c27_12 : C := .skip
def c27_3 : C := (.keep [0, 1, 9, 10, 11] c27_12)
def c27_11 : C := (.region [
      ⟨(some 57), (.pure (.bin .add)), [.t 11, .c (.int .i64 (Int.ofNat 1))], none⟩,
      ⟨(some 11), (.pure .mov), [.t 57], none⟩] false)
def c27_7 : C := (.keep [0, 1, 9, 10, 11] c27_11)
def c27_10 : C := (.region [
      ⟨(some 47), (.pure .mov), [.t 0], none⟩,
      ⟨(some 48), (.pure .mov), [.t 0], none⟩,
      ⟨(some 49), (.pure .nilchk), [.t 48], none⟩,
      ⟨(some 50), (.pure (.fadd 6)), [.t 49], none⟩,
      ⟨(some 51), (.read (.load 1 false) []), [.t 50], none⟩,
      ⟨(some 52), (.read (.load 6 true) []), [.t 5], none⟩,
      ⟨(some 53), (.alloc (.bslice [(.int .i64 (Int.ofNat 0)), (.int .i64 (Int.ofNat 0)), (.int .i64 (Int.ofNat 0)), (.int .i64 (Int.ofNat 0)), (.int .i64 (Int.ofNat 0)), (.int .i64 (Int.ofNat 0))] [(0, 6)] 6 1)), [.t 52], none⟩,
      ⟨(some 54), (.eff (.app 6 48)), [.t 51, .t 53], none⟩,
      ⟨(some 55), (.pure .nilchk), [.t 47], none⟩,
      ⟨(some 56), (.pure (.fadd 6)), [.t 55], none⟩,
      ⟨none, (.eff (.store 1)), [.t 56, .t 54], none⟩] false)
def c27_9 : C := (.cond (.t 40) (.seq (.region [
      ⟨(some 41), (.pure .mov), [.t 0], none⟩,
      ⟨(some 42), (.pure .nilchk), [.t 41], none⟩,
      ⟨(some 43), (.pure (.fadd 7)), [.t 42], none⟩,
      ⟨(some 44), (.read (.load 1 false) []), [.t 43], none⟩,
      ⟨(some 45), (.pure (.fadd 0)), [.t 5], none⟩,
      ⟨(some 46), (.read (.load 1 false) []), [.t 45], none⟩,
      ⟨none, (.eff (.mupd (.one .i))), [.t 44, .t 46, .c (.bool true)], none⟩] false) c27_10)
    .skip)
def c27_8 : C := (.seq (.region [
      ⟨(some 15), (.pure (.fadd 1)), [.t 5], none⟩,
      ⟨(some 16), (.read (.load 1 false) []), [.t 15], none⟩,
      ⟨(some 17), (.pure .mov), [.t 0], none⟩,
      ⟨(some 18), (.pure .nilchk), [.t 17], none⟩,
      ⟨(some 19), (.pure (.fadd 0)), [.t 18], none⟩,
      ⟨(some 20), (.read (.load 1 false) []), [.t 19], none⟩,
      ⟨(some 21), (.pure (.bin .eql)), [.t 16, .t 20], none⟩,
      ⟨(some 22), (.pure .mov), [.t 21], none⟩,
      ⟨(some 23), (.pure (.fadd 0)), [.t 5], (some (22, true))⟩,
      ⟨(some 24), (.read (.load 1 false) []), [.t 23], (some (22, true))⟩,
      ⟨(some 25), (.pure .mov), [.t 0], (some (22, true))⟩,
      ⟨(some 26), (.pure .nilchk), [.t 25], (some (22, true))⟩,
      ⟨(some 27), (.pure (.fadd 8)), [.t 26], (some (22, true))⟩,
      ⟨(some 28), (.read (.load 1 false) []), [.t 27], (some (22, true))⟩,
      ⟨(some 29), (.pure (.bin .gtr)), [.t 24, .t 28], (some (22, true))⟩,
      ⟨(some 30), (.pure .pick), [.t 22, .t 29, .c (.bool false)], none⟩,
      ⟨(some 31), (.pure .mov), [.t 30], none⟩,
      ⟨(some 32), (.pure .mov), [.t 0], (some (31, true))⟩,
      ⟨(some 33), (.pure .nilchk), [.t 32], (some (31, true))⟩,
      ⟨(some 34), (.pure (.fadd 7)), [.t 33], (some (31, true))⟩,
      ⟨(some 35), (.read (.load 1 false) []), [.t 34], (some (31, true))⟩,
      ⟨(some 36), (.pure (.fadd 0)), [.t 5], (some (31, true))⟩,
      ⟨(some 37), (.read (.load 1 false) []), [.t 36], (some (31, true))⟩,
      ⟨(some 38), (.read (.lookup (.one .i) (.bool false) false) []), [.t 35, .t 37], (some (31, true))⟩,
      ⟨(some 39), (.pure (.un .not)), [.t 38], (some (31, true))⟩,
      ⟨(some 40), (.pure .pick), [.t 31, .t 39, .c (.bool false)], none⟩] false) c27_9)
def c27_5 : C := (.seq (.block 1 (.seq (.region [
      ⟨(some 13), (.pure (.iaddS 6)), [.t 9, .t 11], none⟩,
      ⟨(some 14), (.read (.load 6 true) []), [.t 13], none⟩,
      ⟨(some 5), (.alloc (.alloc [(.int .i64 (Int.ofNat 0)), (.int .i64 (Int.ofNat 0)), (.int .i64 (Int.ofNat 0)), (.int .i64 (Int.ofNat 0)), (.int .i64 (Int.ofNat 0)), (.int .i64 (Int.ofNat 0))])), [], none⟩,
      ⟨none, (.eff (.store 6)), [.t 5, .t 14], none⟩] false) c27_8)) c27_7)
def c27_6 : C := (.exit 0)
def c27_4 : C := (.seq (.cond (.t 12) .skip
    (.keep [0, 1] c27_6)) c27_5)
def c27_2 : C := (.seq (.seq (.region [
      ⟨(some 12), (.pure (.bin .lss)), [.t 11, .t 10], none⟩] false) c27_4) c27_3)
def c27_1 : C := (.block 0 (.loop (some [0, 1, 9, 10, 11]) c27_2))
def k27 : DFn := ⟨70, (.seq (.seq (.region [
      ⟨(some 6), (.pure .mov), [.t 1], none⟩,
      ⟨(some 7), (.pure .nilchk), [.t 6], none⟩,
      ⟨(some 8), (.pure (.fadd 26)), [.t 7], none⟩,
      ⟨(some 9), (.read (.load 1 false) []), [.t 8], none⟩,
      ⟨(some 10), (.pure .lenS), [.t 9], none⟩,
      ⟨(some 11), (.pure .mov), [.c (.int .i64 (Int.ofNat 0))], none⟩] false) c27_1) c27_0), []⟩
theorem c27 : (match Try.prog.funcs[27]? with | some fn => compileFn Try.prog 0 [some [0, 1], none, some [0, 1, 9, 10, 11], none, none, some [0, 1], some [0, 1, 9, 10, 11], none, none, none] fn | none => none) = some k27 := by kernel_rfl
def q27_0 (tb : Nat → Option DFn) (nv : CallF) (Q : Value → Heap → Prop) : Kont := kSeq (fun wf H => wC tb nv c27_0 wf H (kFn [] Q)) (kFn [] Q)
def q27_1 (tb : Nat → Option DFn) (nv : CallF) (Q : Value → Heap → Prop) : Kont := kBlk 0 (q27_0 tb nv Q)
def q27_2 (tb : Nat → Option DFn) (nv : CallF) (K : Kont) : Kont := kSeq (fun wf H => wC tb nv c27_3 wf H K) K
def w27_11 (tb : Nat → Option DFn) (nv : CallF) (t0 t1 t9 t10 t11 : Value) (H : Heap) (K : Kont) : Prop := wC tb nv c27_11 (mkW [(0, t0), (1, t1), (9, t9), (10, t10), (11, t11)]) H (q27_2 tb nv K)
def w27_13 (tb : Nat → Option DFn) (nv : CallF) (t0 t1 : Value) (H : Heap) (Q : Value → Heap → Prop) : Prop := wC tb nv c27_13 (mkW [(0, t0), (1, t1)]) H (kFn [] Q)
theorem e27 (tb : Nat → Option DFn) (nv : CallF) (a0 a1 : Value) (H : Heap) (Q : Value → Heap → Prop) : wFn tb nv k27 [a0, a1] H Q = (
    wP .nilchk [a1] fun x0 =>
    wP (.fadd 26) [x0] fun x1 =>
    wR (.load 1 false) [x1] H fun x2 =>
    wP .lenS [x2] fun x3 =>
    wLoop tb nv c27_2 [0, 1, 9, 10, 11] (mkW [(0, a0), (1, a1), (9, x2), (10, x3), (11, (.int .i64 0))]) H (q27_1 tb nv Q)) := by kernel_rfl
theorem l27_2 (tb : Nat → Option DFn) (nv : CallF) (t0 t1 t9 t10 t11 : Value) (H : Heap) (K : Kont) : wC tb nv c27_2 (mkW [(0, t0), (1, t1), (9, t9), (10, t10), (11, t11)]) H K = (
    wP (.bin .lss) [t11, t10] fun x4 =>
    asB x4 fun b5 => onB b5 (wP (.iaddS 6) [t9, t11] fun x6 =>
    wR (.load 6 true) [x6] H fun x7 =>
    wA (.alloc [(.int .i64 0), (.int .i64 0), (.int .i64 0), (.int .i64 0), (.int .i64 0), (.int .i64 0)]) [] H fun x8 H9 =>
    wE (.store 6) [x8, x7] H9 fun x10 H11 =>
    wP (.fadd 1) [x8] fun x12 =>
    wR (.load 1 false) [x12] H11 fun x13 =>
    wP .nilchk [t0] fun x14 =>
    wP (.fadd 0) [x14] fun x15 =>
    wR (.load 1 false) [x15] H11 fun x16 =>
    wP (.bin .eql) [x13, x16] fun x17 =>
    asB x17 fun b18 => onB b18 (wP (.fadd 0) [x8] fun x19 =>
    wR (.load 1 false) [x19] H11 fun x20 =>
    wP .nilchk [t0] fun x21 =>
    wP (.fadd 8) [x21] fun x22 =>
    wR (.load 1 false) [x22] H11 fun x23 =>
    wP (.bin .gtr) [x20, x23] fun x24 =>
    asB x24 fun b25 => onB b25 (wP .nilchk [t0] fun x26 =>
    wP (.fadd 7) [x26] fun x27 =>
    wR (.load 1 false) [x27] H11 fun x28 =>
    wP (.fadd 0) [x8] fun x29 =>
    wR (.load 1 false) [x29] H11 fun x30 =>
    wR (.lookup (.one .i) (.bool false) false) [x28, x30] H11 fun x31 =>
    wP (.un .not) [x31] fun x32 =>
    asB x32 fun b33 => onB b33 (wP .nilchk [t0] fun x34 =>
    wP (.fadd 7) [x34] fun x35 =>
    wR (.load 1 false) [x35] H11 fun x36 =>
    wP (.fadd 0) [x8] fun x37 =>
    wR (.load 1 false) [x37] H11 fun x38 =>
    wE (.mupd (.one .i)) [x36, x38, (.bool true)] H11 fun x39 H40 =>
    wP .nilchk [t0] fun x41 =>
    wP (.fadd 6) [x41] fun x42 =>
    wR (.load 1 false) [x42] H40 fun x43 =>
    wR (.load 6 true) [x8] H40 fun x44 =>
    wA (.bslice [(.int .i64 0), (.int .i64 0), (.int .i64 0), (.int .i64 0), (.int .i64 0), (.int .i64 0)] [(0, 6)] 6 1) [x44] H40 fun x45 H46 =>
    wE (.app 6 48) [x43, x45] H46 fun x47 H48 =>
    wP .nilchk [t0] fun x49 =>
    wP (.fadd 6) [x49] fun x50 =>
    wE (.store 1) [x50, x47] H48 fun x51 H52 =>
    atK (w27_11 tb nv t0 t1 t9 t10 t11 H52 K))
    (atK (w27_11 tb nv t0 t1 t9 t10 t11 H11 K)))
    (atK (w27_11 tb nv t0 t1 t9 t10 t11 H11 K)))
    (atK (w27_11 tb nv t0 t1 t9 t10 t11 H11 K)))
    (atK (K (.exit 0) (mkW [(0, t0), (1, t1)]) H))) := by kernel_rfl
theorem x27_2_0 (tb : Nat → Option DFn) (nv : CallF) (t0 t1 : Value) (H : Heap) (Q : Value → Heap → Prop) : (q27_1 tb nv Q) (.exit 0) (mkW [(0, t0), (1, t1)]) H = (
    atK (w27_13 tb nv t0 t1 H Q)) := by kernel_rfl
theorem e27_11 (tb : Nat → Option DFn) (nv : CallF) (t0 t1 t9 t10 t11 : Value) (H : Heap) (K : Kont) : w27_11 tb nv t0 t1 t9 t10 t11 H K = (
    wP (.bin .add) [t11, (.int .i64 1)] fun x53 =>
    atK (K .normal (mkW [(0, t0), (1, t1), (9, t9), (10, t10), (11, x53)]) H)) := by kernel_rfl
theorem e27_13 (tb : Nat → Option DFn) (nv : CallF) (t0 t1 : Value) (H : Heap) (Q : Value → Heap → Prop) : w27_13 tb nv t0 t1 H Q = (
    wP .nilchk [t0] fun x54 =>
    wP (.fadd 8) [x54] fun x55 =>
    wR (.load 1 false) [x55] H fun x56 =>
    wP .nilchk [t1] fun x57 =>
    wP (.fadd 5) [x57] fun x58 =>
    wR (.load 1 false) [x58] H fun x59 =>
    wP .max [x56, x59] fun x60 =>
    wP .nilchk [t0] fun x61 =>
    wP (.fadd 8) [x61] fun x62 =>
    wE (.store 1) [x62, x60] H fun x63 H64 =>
    Q (.tuple ⟨[]⟩) H64) := by kernel_rfl

/-- slices.Clone[[]tompion/api.Fire,tompion/api.Fire] -/
def c28_6 : C := .ret
def c28_5 : C := (.keep [2] c28_6)
def c28_1 : C := (.seq (.region [
      ⟨(some 5), (.alloc (.bslice [] [] 6 0)), [], none⟩,
      ⟨(some 6), (.pure .mov), [.t 0], none⟩,
      ⟨(some 7), (.eff (.app 6 48)), [.t 5, .t 6], none⟩,
      ⟨(some 2), (.pure .mov), [.t 7], none⟩] false) c28_5)
def c28_4 : C := .ret
def c28_3 : C := (.keep [2] c28_4)
def c28_2 : C := (.cond (.t 4) (.seq (.region [
      ⟨(some 2), (.pure .mov), [.c (.slice none 0 0)], none⟩] false) c28_3)
    .skip)
def c28_0 : C := (.seq (.seq (.region [
      ⟨(some 3), (.pure .mov), [.t 0], none⟩,
      ⟨(some 4), (.pure (.nilEq false .slice)), [.t 3], none⟩] false) c28_2) c28_1)
def k28 : DFn := ⟨8, (.seq (.region [
      ⟨(some 2), (.pure .mov), [.c (.slice none 0 0)], none⟩] false) c28_0), [.tmp 2]⟩
theorem c28 : (match Try.prog.funcs[28]? with | some fn => compileFn Try.prog 0 [none, none, none, none, some [2], none, some [2]] fn | none => none) = some k28 := by kernel_rfl
theorem e28 (tb : Nat → Option DFn) (nv : CallF) (a0 : Value) (H : Heap) (Q : Value → Heap → Prop) : wFn tb nv k28 [a0] H Q = (
    wP (.nilEq false .slice) [a0] fun x0 =>
    asB x0 fun b1 => onB b1 (atK (Q (.slice none 0 0) H))
    (wA (.bslice [] [] 6 0) [] H fun x2 H3 =>
    wE (.app 6 48) [x2, a0] H3 fun x4 H5 =>
    atK (Q x4 H5))) := by kernel_rfl

/-- tompion/tompionref11.may -/
def c29_2 : C := .ret
def c29_1 : C := (.keep [2] c29_2)
def c29_0 : C := (.seq (.region [
      ⟨(some 3), (.pure (.fadd 0)), [.t 1], none⟩,
      ⟨(some 4), (.read (.load 1 false) []), [.t 3], none⟩,
      ⟨(some 5), (.pure (.bin .geq)), [.t 4, .c (.int .i64 (Int.ofNat 0))], none⟩,
      ⟨(some 6), (.pure .mov), [.t 5], none⟩,
      ⟨(some 7), (.pure (.fadd 0)), [.t 1], (some (6, true))⟩,
      ⟨(some 8), (.read (.load 1 false) []), [.t 7], (some (6, true))⟩,
      ⟨(some 9), (.pure (.bin .leq)), [.t 8, .c (.int .i64 (Int.ofNat 7))], (some (6, true))⟩,
      ⟨(some 10), (.pure .pick), [.t 6, .t 9, .c (.bool false)], none⟩,
      ⟨(some 11), (.pure .mov), [.t 10], none⟩,
      ⟨(some 12), (.pure (.fadd 1)), [.t 1], (some (11, true))⟩,
      ⟨(some 13), (.read (.load 1 false) []), [.t 12], (some (11, true))⟩,
      ⟨(some 14), (.pure (.bin .geq)), [.t 13, .c (.int .i64 (Int.ofNat 1))], (some (11, true))⟩,
      ⟨(some 15), (.pure .pick), [.t 11, .t 14, .c (.bool false)], none⟩,
      ⟨(some 16), (.pure .mov), [.t 15], none⟩,
      ⟨(some 17), (.pure (.fadd 1)), [.t 1], (some (16, true))⟩,
      ⟨(some 18), (.read (.load 1 false) []), [.t 17], (some (16, true))⟩,
      ⟨(some 19), (.pure (.bin .leq)), [.t 18, .c (.int .i64 (Int.ofNat 1099511627776))], (some (16, true))⟩,
      ⟨(some 20), (.pure .pick), [.t 16, .t 19, .c (.bool false)], none⟩,
      ⟨(some 2), (.pure .mov), [.t 20], none⟩] false) c29_1)
def k29 : DFn := ⟨21, (.seq (.region [
      ⟨(some 1), (.alloc .box), [.t 0], none⟩,
      ⟨(some 2), (.pure .mov), [.c (.bool false)], none⟩] false) c29_0), [.tmp 2]⟩
theorem c29 : (match Try.prog.funcs[29]? with | some fn => compileFn Try.prog 0 [none, none, some [2]] fn | none => none) = some k29 := by kernel_rfl
theorem e29 (tb : Nat → Option DFn) (nv : CallF) (a0 : Value) (H : Heap) (Q : Value → Heap → Prop) : wFn tb nv k29 [a0] H Q = (
    wA .box [a0] H fun x0 H1 =>
    wP (.fadd 0) [x0] fun x2 =>
    wR (.load 1 false) [x2] H1 fun x3 =>
    wP (.bin .geq) [x3, (.int .i64 0)] fun x4 =>
    asB x4 fun b5 => onB b5 (wP (.fadd 0) [x0] fun x6 =>
    wR (.load 1 false) [x6] H1 fun x7 =>
    wP (.bin .leq) [x7, (.int .i64 7)] fun x8 =>
    asB x8 fun b9 => onB b9 (wP (.fadd 1) [x0] fun x10 =>
    wR (.load 1 false) [x10] H1 fun x11 =>
    wP (.bin .geq) [x11, (.int .i64 1)] fun x12 =>
    asB x12 fun b13 => onB b13 (wP (.fadd 1) [x0] fun x14 =>
    wR (.load 1 false) [x14] H1 fun x15 =>
    wP (.bin .leq) [x15, (.int .i64 1099511627776)] fun x16 =>
    atK (Q x16 H1))
    (atK (Q (.bool false) H1)))
    (atK (Q (.bool false) H1)))
    (atK (Q (.bool false) H1))) := by kernel_rfl

/-- (*tompion/client.Client).from -/
def c30_2 : C := .ret
def c30_1 : C := (.keep [6] c30_2)
def c30_0 : C := (.seq (.region [
      ⟨(some 7), (.pure .mov), [.t 1], none⟩,
      ⟨(some 8), (.pure .mov), [.t 2], none⟩,
      ⟨(some 9), (.pure .mov), [.t 0], none⟩,
      ⟨(some 10), (.pure .nilchk), [.t 9], none⟩,
      ⟨(some 11), (.pure (.fadd 0)), [.t 10], none⟩,
      ⟨(some 12), (.read (.load 1 false) []), [.t 11], none⟩,
      ⟨(some 13), (.pure (.build [(.int .i64 (Int.ofNat 0)), (.int .i64 (Int.ofNat 0))] [(0, 1)])), [.t 12], none⟩,
      ⟨(some 14), (.pure (.build [(.int .i64 (Int.ofNat 0)), (.int .i64 (Int.ofNat 0)), (.int .i64 (Int.ofNat 0)), (.int .i64 (Int.ofNat 0)), (.int .i64 (Int.ofNat 0)), (.int .i64 (Int.ofNat 0)), (.int .i64 (Int.ofNat 0)), (.int .i64 (Int.ofNat 0)), (.int .i64 (Int.ofNat 0)), (.int .i64 (Int.ofNat 0)), (.bool false), (.int .i64 (Int.ofNat 0)), (.int .i64 (Int.ofNat 0)), (.int .i64 (Int.ofNat 0)), (.int .i64 (Int.ofNat 0)), (.int .i64 (Int.ofNat 0)), (.int .i64 (Int.ofNat 0)), (.int .i64 (Int.ofNat 0)), (.int .i64 (Int.ofNat 0)), (.int .i64 (Int.ofNat 0)), (.string ⟨⟨[]⟩⟩), (.int .i64 (Int.ofNat 0)), (.int .i64 (Int.ofNat 0)), (.int .i64 (Int.ofNat 0)), (.int .i64 (Int.ofNat 0)), (.slice none 0 0), (.slice none 0 0), (.int .i64 (Int.ofNat 0))] [(0, 1), (1, 1), (2, 2)])), [.t 7, .t 8, .t 13], none⟩,
      ⟨none, (.eff (.store 28)), [.t 6, .t 14], none⟩] false) c30_1)
def k30 : DFn := ⟨15, (.seq (.region [
      ⟨(some 6), (.alloc (.alloc [(.int .i64 (Int.ofNat 0)), (.int .i64 (Int.ofNat 0)), (.int .i64 (Int.ofNat 0)), (.int .i64 (Int.ofNat 0)), (.int .i64 (Int.ofNat 0)), (.int .i64 (Int.ofNat 0)), (.int .i64 (Int.ofNat 0)), (.int .i64 (Int.ofNat 0)), (.int .i64 (Int.ofNat 0)), (.int .i64 (Int.ofNat 0)), (.bool false), (.int .i64 (Int.ofNat 0)), (.int .i64 (Int.ofNat 0)), (.int .i64 (Int.ofNat 0)), (.int .i64 (Int.ofNat 0)), (.int .i64 (Int.ofNat 0)), (.int .i64 (Int.ofNat 0)), (.int .i64 (Int.ofNat 0)), (.int .i64 (Int.ofNat 0)), (.int .i64 (Int.ofNat 0)), (.string ⟨⟨[]⟩⟩), (.int .i64 (Int.ofNat 0)), (.int .i64 (Int.ofNat 0)), (.int .i64 (Int.ofNat 0)), (.int .i64 (Int.ofNat 0)), (.slice none 0 0), (.slice none 0 0), (.int .i64 (Int.ofNat 0))])), [], none⟩] false) c30_0), [.cell 6 28 true]⟩
theorem c30 : (match Try.prog.funcs[30]? with | some fn => compileFn Try.prog 0 [none, none, some [6]] fn | none => none) = some k30 := by kernel_rfl
theorem e30 (tb : Nat → Option DFn) (nv : CallF) (a0 a1 a2 : Value) (H : Heap) (Q : Value → Heap → Prop) : wFn tb nv k30 [a0, a1, a2] H Q = (
    wA (.alloc [(.int .i64 0), (.int .i64 0), (.int .i64 0), (.int .i64 0), (.int .i64 0), (.int .i64 0), (.int .i64 0), (.int .i64 0), (.int .i64 0), (.int .i64 0), (.bool false), (.int .i64 0), (.int .i64 0), (.int .i64 0), (.int .i64 0), (.int .i64 0), (.int .i64 0), (.int .i64 0), (.int .i64 0), (.int .i64 0), (.string ⟨⟨[]⟩⟩), (.int .i64 0), (.int .i64 0), (.int .i64 0), (.int .i64 0), (.slice none 0 0), (.slice none 0 0), (.int .i64 0)]) [] H fun x0 H1 =>
    wP .nilchk [a0] fun x2 =>
    wP (.fadd 0) [x2] fun x3 =>
    wR (.load 1 false) [x3] H1 fun x4 =>
    wP (.build [(.int .i64 0), (.int .i64 0)] [(0, 1)]) [x4] fun x5 =>
    wP (.build [(.int .i64 0), (.int .i64 0), (.int .i64 0), (.int .i64 0), (.int .i64 0), (.int .i64 0), (.int .i64 0), (.int .i64 0), (.int .i64 0), (.int .i64 0), (.bool false), (.int .i64 0), (.int .i64 0), (.int .i64 0), (.int .i64 0), (.int .i64 0), (.int .i64 0), (.int .i64 0), (.int .i64 0), (.int .i64 0), (.string ⟨⟨[]⟩⟩), (.int .i64 0), (.int .i64 0), (.int .i64 0), (.int .i64 0), (.slice none 0 0), (.slice none 0 0), (.int .i64 0)] [(0, 1), (1, 1), (2, 2)]) [a1, a2, x5] fun x6 =>
    wE (.store 28) [x0, x6] H1 fun x7 H8 =>
    atK (wR (.load 28 true) [x0] H8 fun x9 =>
    Q x9 H8)) := by kernel_rfl

/-- tompion/config.Tail -/
def c31_2 : C := .ret
def c31_1 : C := (.keep [2, 3] c31_2)
def c31_0 : C := (.seq (.region [
      ⟨(some 4), (.pure (.fadd 1)), [.t 1], none⟩,
      ⟨(some 5), (.read (.load 1 false) []), [.t 4], none⟩,
      ⟨(some 6), (.pure .lenS), [.t 5], none⟩,
      ⟨(some 7), (.pure (.bin .sub)), [.t 6, .c (.int .i64 (Int.ofNat 1))], none⟩,
      ⟨(some 8), (.call 34), [.t 1, .t 7], none⟩,
      ⟨(some 9), (.pure (.extract 0)), [.t 8], none⟩,
      ⟨(some 10), (.pure (.extract 1)), [.t 8], none⟩,
      ⟨none, (.eff (.store 2)), [.t 2, .t 9], none⟩,
      ⟨(some 3), (.pure .mov), [.t 10], none⟩] false) c31_1)
def k31 : DFn := ⟨11, (.seq (.region [
      ⟨(some 1), (.alloc .box), [.t 0], none⟩,
      ⟨(some 2), (.alloc (.alloc [(.int .i64 (Int.ofNat 0)), (.int .i64 (Int.ofNat 0))])), [], none⟩,
      ⟨(some 3), (.pure .mov), [.c (.bool false)], none⟩] false) c31_0), [.cell 2 2 true, .tmp 3]⟩
theorem c31 : (match Try.prog.funcs[31]? with | some fn => compileFn Try.prog 0 [none, none, some [2, 3]] fn | none => none) = some k31 := by kernel_rfl
theorem e31 (tb : Nat → Option DFn) (nv : CallF) (a0 : Value) (H : Heap) (Q : Value → Heap → Prop) : wFn tb nv k31 [a0] H Q = (
    wA .box [a0] H fun x0 H1 =>
    wA (.alloc [(.int .i64 0), (.int .i64 0)]) [] H1 fun x2 H3 =>
    wP (.fadd 1) [x0] fun x4 =>
    wR (.load 1 false) [x4] H3 fun x5 =>
    wP .lenS [x5] fun x6 =>
    wP (.bin .sub) [x6, (.int .i64 1)] fun x7 =>
    Ev tb nv 34 [x0, x7] H3 fun x8 H9 =>
    wP (.extract 0) [x8] fun x10 =>
    wP (.extract 1) [x8] fun x11 =>
    wE (.store 2) [x2, x10] H9 fun x12 H13 =>
    atK (wR (.load 2 true) [x2] H13 fun x14 =>
    Q (.tuple ⟨[x14, x11]⟩) H13)) := by kernel_rfl

/-- tompion/config.Head -/
def c32_2 : C := .ret
def c32_1 : C := (.keep [2, 3] c32_2)
def c32_0 : C := (.seq (.region [
      ⟨(some 4), (.call 34), [.t 1, .c (.int .i64 (Int.ofNat 0))], none⟩,
      ⟨(some 5), (.pure (.extract 0)), [.t 4], none⟩,
      ⟨(some 6), (.pure (.extract 1)), [.t 4], none⟩,
      ⟨none, (.eff (.store 2)), [.t 2, .t 5], none⟩,
      ⟨(some 3), (.pure .mov), [.t 6], none⟩] false) c32_1)
def k32 : DFn := ⟨7, (.seq (.region [
      ⟨(some 1), (.alloc .box), [.t 0], none⟩,
      ⟨(some 2), (.alloc (.alloc [(.int .i64 (Int.ofNat 0)), (.int .i64 (Int.ofNat 0))])), [], none⟩,
      ⟨(some 3), (.pure .mov), [.c (.bool false)], none⟩] false) c32_0), [.cell 2 2 true, .tmp 3]⟩
theorem c32 : (match Try.prog.funcs[32]? with | some fn => compileFn Try.prog 0 [none, none, some [2, 3]] fn | none => none) = some k32 := by kernel_rfl
theorem e32 (tb : Nat → Option DFn) (nv : CallF) (a0 : Value) (H : Heap) (Q : Value → Heap → Prop) : wFn tb nv k32 [a0] H Q = (
    wA .box [a0] H fun x0 H1 =>
    wA (.alloc [(.int .i64 0), (.int .i64 0)]) [] H1 fun x2 H3 =>
    Ev tb nv 34 [x0, (.int .i64 0)] H3 fun x4 H5 =>
    wP (.extract 0) [x4] fun x6 =>
    wP (.extract 1) [x4] fun x7 =>
    wE (.store 2) [x2, x6] H5 fun x8 H9 =>
    atK (wR (.load 2 true) [x2] H9 fun x10 =>
    Q (.tuple ⟨[x10, x7]⟩) H9)) := by kernel_rfl

/-- tompion/config.may -/
def c33_2 : C := .ret
def c33_1 : C := (.keep [2] c33_2)
def c33_0 : C := (.seq (.region [
      ⟨(some 3), (.pure (.fadd 0)), [.t 1], none⟩,
      ⟨(some 4), (.read (.load 1 false) []), [.t 3], none⟩,
      ⟨(some 5), (.pure (.bin .geq)), [.t 4, .c (.int .i64 (Int.ofNat 0))], none⟩,
      ⟨(some 6), (.pure .mov), [.t 5], none⟩,
      ⟨(some 7), (.pure (.fadd 0)), [.t 1], (some (6, true))⟩,
      ⟨(some 8), (.read (.load 1 false) []), [.t 7], (some (6, true))⟩,
      ⟨(some 9), (.pure (.bin .lss)), [.t 8, .c (.int .i64 (Int.ofNat 8))], (some (6, true))⟩,
      ⟨(some 10), (.pure .pick), [.t 6, .t 9, .c (.bool false)], none⟩,
      ⟨(some 11), (.pure .mov), [.t 10], none⟩,
      ⟨(some 12), (.pure (.fadd 1)), [.t 1], (some (11, true))⟩,
      ⟨(some 13), (.read (.load 1 false) []), [.t 12], (some (11, true))⟩,
      ⟨(some 14), (.pure (.bin .geq)), [.t 13, .c (.int .i64 (Int.ofNat 1))], (some (11, true))⟩,
      ⟨(some 15), (.pure .pick), [.t 11, .t 14, .c (.bool false)], none⟩,
      ⟨(some 16), (.pure .mov), [.t 15], none⟩,
      ⟨(some 17), (.pure (.fadd 1)), [.t 1], (some (16, true))⟩,
      ⟨(some 18), (.read (.load 1 false) []), [.t 17], (some (16, true))⟩,
      ⟨(some 19), (.pure (.bin .leq)), [.t 18, .c (.int .i64 (Int.ofNat 1099511627776))], (some (16, true))⟩,
      ⟨(some 20), (.pure .pick), [.t 16, .t 19, .c (.bool false)], none⟩,
      ⟨(some 2), (.pure .mov), [.t 20], none⟩] false) c33_1)
def k33 : DFn := ⟨21, (.seq (.region [
      ⟨(some 1), (.alloc .box), [.t 0], none⟩,
      ⟨(some 2), (.pure .mov), [.c (.bool false)], none⟩] false) c33_0), [.tmp 2]⟩
theorem c33 : (match Try.prog.funcs[33]? with | some fn => compileFn Try.prog 0 [none, none, some [2]] fn | none => none) = some k33 := by kernel_rfl
theorem e33 (tb : Nat → Option DFn) (nv : CallF) (a0 : Value) (H : Heap) (Q : Value → Heap → Prop) : wFn tb nv k33 [a0] H Q = (
    wA .box [a0] H fun x0 H1 =>
    wP (.fadd 0) [x0] fun x2 =>
    wR (.load 1 false) [x2] H1 fun x3 =>
    wP (.bin .geq) [x3, (.int .i64 0)] fun x4 =>
    asB x4 fun b5 => onB b5 (wP (.fadd 0) [x0] fun x6 =>
    wR (.load 1 false) [x6] H1 fun x7 =>
    wP (.bin .lss) [x7, (.int .i64 8)] fun x8 =>
    asB x8 fun b9 => onB b9 (wP (.fadd 1) [x0] fun x10 =>
    wR (.load 1 false) [x10] H1 fun x11 =>
    wP (.bin .geq) [x11, (.int .i64 1)] fun x12 =>
    asB x12 fun b13 => onB b13 (wP (.fadd 1) [x0] fun x14 =>
    wR (.load 1 false) [x14] H1 fun x15 =>
    wP (.bin .leq) [x15, (.int .i64 1099511627776)] fun x16 =>
    atK (Q x16 H1))
    (atK (Q (.bool false) H1)))
    (atK (Q (.bool false) H1)))
    (atK (Q (.bool false) H1))) := by kernel_rfl

end Go.Proofs.Ytfflfehfjgkcdaa.D
