/- The compiled functions of the seat, as the machine "D" runs them, and what each comes to (written by a program). No statement of the seat is proved in this text. -/
import Derived.Test.YtfflfehfjgkcdaaDz
import Derived.Test.YtfflfehfjgkcdaaProg
set_option maxRecDepth 100000
set_option linter.unusedVariables false
namespace Go.Proofs.Ytfflfehfjgkcdaa.D
open Go
/-- tompion/config.at -/
def c34_6 : C := .ret
def c34_5 : C := (.keep [4, 5] c34_6)
def c34_1 : C := (.seq (.region [
      ⟨(some 18), (.pure .mov), [.t 0], none⟩,
      ⟨(some 19), (.pure .nilchk), [.t 18], none⟩,
      ⟨(some 20), (.pure (.fadd 1)), [.t 19], none⟩,
      ⟨(some 21), (.read (.load 1 false) []), [.t 20], none⟩,
      ⟨(some 22), (.pure .mov), [.t 1], none⟩,
      ⟨(some 23), (.pure (.iaddS 3)), [.t 21, .t 22], none⟩,
      ⟨(some 24), (.pure (.fadd 0)), [.t 23], none⟩,
      ⟨(some 25), (.read (.load 2 true) []), [.t 24], none⟩,
      ⟨none, (.eff (.store 2)), [.t 4, .t 25], none⟩,
      ⟨(some 5), (.pure .mov), [.c (.bool true)], none⟩] false) c34_5)
def c34_4 : C := .ret
def c34_3 : C := (.keep [4, 5] c34_4)
def c34_2 : C := (.cond (.t 16) (.seq (.region [
      ⟨(some 17), (.read (.load 2 true) []), [.t 4], none⟩,
      ⟨none, (.eff (.store 2)), [.t 4, .t 17], none⟩,
      ⟨(some 5), (.pure .mov), [.c (.bool false)], none⟩] false) c34_3)
    .skip)
def c34_0 : C := (.seq (.seq (.region [
      ⟨(some 6), (.pure .mov), [.t 1], none⟩,
      ⟨(some 7), (.pure (.bin .lss)), [.t 6, .c (.int .i64 (Int.ofNat 0))], none⟩,
      ⟨(some 8), (.pure .mov), [.t 7], none⟩,
      ⟨(some 9), (.pure .mov), [.t 1], (some (8, false))⟩,
      ⟨(some 10), (.pure .mov), [.t 0], (some (8, false))⟩,
      ⟨(some 11), (.pure .nilchk), [.t 10], (some (8, false))⟩,
      ⟨(some 12), (.pure (.fadd 1)), [.t 11], (some (8, false))⟩,
      ⟨(some 13), (.read (.load 1 false) []), [.t 12], (some (8, false))⟩,
      ⟨(some 14), (.pure .lenS), [.t 13], (some (8, false))⟩,
      ⟨(some 15), (.pure (.bin .geq)), [.t 9, .t 14], (some (8, false))⟩,
      ⟨(some 16), (.pure .pick), [.t 8, .c (.bool true), .t 15], none⟩] false) c34_2) c34_1)
def k34 : DFn := ⟨26, (.seq (.region [
      ⟨(some 4), (.alloc (.alloc [(.int .i64 (Int.ofNat 0)), (.int .i64 (Int.ofNat 0))])), [], none⟩,
      ⟨(some 5), (.pure .mov), [.c (.bool false)], none⟩] false) c34_0), [.cell 4 2 true, .tmp 5]⟩
theorem c34 : (match Try.prog.funcs[34]? with | some fn => compileFn Try.prog 0 [none, none, none, none, some [4, 5], none, some [4, 5]] fn | none => none) = some k34 := by kernel_rfl
theorem e34 (tb : Nat → Option DFn) (nv : CallF) (a0 a1 : Value) (H : Heap) (Q : Value → Heap → Prop) : wFn tb nv k34 [a0, a1] H Q = (
    wA (.alloc [(.int .i64 0), (.int .i64 0)]) [] H fun x0 H1 =>
    wP (.bin .lss) [a1, (.int .i64 0)] fun x2 =>
    asB x2 fun b3 => onB b3 (wR (.load 2 true) [x0] H1 fun x4 =>
    wE (.store 2) [x0, x4] H1 fun x5 H6 =>
    atK (wR (.load 2 true) [x0] H6 fun x7 =>
    Q (.tuple ⟨[x7, (.bool false)]⟩) H6))
    (wP .nilchk [a0] fun x8 =>
    wP (.fadd 1) [x8] fun x9 =>
    wR (.load 1 false) [x9] H1 fun x10 =>
    wP .lenS [x10] fun x11 =>
    wP (.bin .geq) [a1, x11] fun x12 =>
    asB x12 fun b13 => onB b13 (wR (.load 2 true) [x0] H1 fun x14 =>
    wE (.store 2) [x0, x14] H1 fun x15 H16 =>
    atK (wR (.load 2 true) [x0] H16 fun x17 =>
    Q (.tuple ⟨[x17, (.bool false)]⟩) H16))
    (wP .nilchk [a0] fun x18 =>
    wP (.fadd 1) [x18] fun x19 =>
    wR (.load 1 false) [x19] H1 fun x20 =>
    wP (.iaddS 3) [x20, a1] fun x21 =>
    wP (.fadd 0) [x21] fun x22 =>
    wR (.load 2 true) [x22] H1 fun x23 =>
    wE (.store 2) [x0, x23] H1 fun x24 H25 =>
    atK (wR (.load 2 true) [x0] H25 fun x26 =>
    Q (.tuple ⟨[x26, (.bool true)]⟩) H25)))) := by kernel_rfl

end Go.Proofs.Ytfflfehfjgkcdaa.D
