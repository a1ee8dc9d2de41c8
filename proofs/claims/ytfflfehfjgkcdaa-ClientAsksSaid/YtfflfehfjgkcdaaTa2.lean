/- The compiled functions of the seat, as the machine "D" runs them, and what each comes to (written by a program). No statement of the seat is proved in this text. -/
import Derived.Test.YtfflfehfjgkcdaaDz
import Derived.Test.YtfflfehfjgkcdaaProg
set_option maxRecDepth 100000
set_option linter.unusedVariables false
namespace Go.Proofs.Ytfflfehfjgkcdaa.D
open Go
/-- tompion/tompionref11.Same -/
def c18_19 : C := .ret
def c18_18 : C := (.keep [4] c18_19)
def c18_17 : C := (.seq (.region [
      ⟨(some 4), (.pure .mov), [.c (.bool true)], none⟩] false) c18_18)
def c18_5 : C := (.keep [] c18_17)
def c18_16 : C := .skip
def c18_8 : C := (.keep [2, 3, 5] c18_16)
def c18_12 : C := (.region [
      ⟨(some 25), (.pure .mov), [.t 5], none⟩,
      ⟨(some 26), (.pure (.bin .add)), [.t 25, .c (.int .i64 (Int.ofNat 1))], none⟩,
      ⟨(some 5), (.pure .mov), [.t 26], none⟩] false)
def c18_15 : C := .ret
def c18_14 : C := (.keep [4] c18_15)
def c18_13 : C := (.cond (.t 37) (.seq (.region [
      ⟨(some 4), (.pure .mov), [.c (.bool false)], none⟩] false) c18_14)
    .skip)
def c18_9 : C := (.seq (.block 1 (.seq (.region [
      ⟨(some 27), (.pure (.fadd 1)), [.t 2], none⟩,
      ⟨(some 28), (.read (.load 1 false) []), [.t 27], none⟩,
      ⟨(some 29), (.pure .mov), [.t 5], none⟩,
      ⟨(some 30), (.pure (.iaddS 3)), [.t 28, .t 29], none⟩,
      ⟨(some 31), (.read (.load 3 true) []), [.t 30], none⟩,
      ⟨(some 32), (.pure (.fadd 1)), [.t 3], none⟩,
      ⟨(some 33), (.read (.load 1 false) []), [.t 32], none⟩,
      ⟨(some 34), (.pure .mov), [.t 5], none⟩,
      ⟨(some 35), (.pure (.iaddS 3)), [.t 33, .t 34], none⟩,
      ⟨(some 36), (.read (.load 3 true) []), [.t 35], none⟩,
      ⟨(some 37), (.pure (.aggEq true [.i, .i, .b])), [.t 31, .t 36], none⟩] false) c18_13)) c18_12)
def c18_11 : C := (.exit 0)
def c18_10 : C := (.cond (.t 24) .skip
    (.keep [] c18_11))
def c18_7 : C := (.seq (.seq (.seq (.region [
      ⟨(some 20), (.pure .mov), [.t 5], none⟩,
      ⟨(some 21), (.pure (.fadd 1)), [.t 2], none⟩,
      ⟨(some 22), (.read (.load 1 false) []), [.t 21], none⟩,
      ⟨(some 23), (.pure .lenS), [.t 22], none⟩,
      ⟨(some 24), (.pure (.bin .lss)), [.t 20, .t 23], none⟩] false) c18_10) c18_9) c18_8)
def c18_6 : C := (.block 0 (.loop (some [2, 3, 5]) c18_7))
def c18_1 : C := (.seq (.seq (.region [
      ⟨(some 5), (.pure .mov), [.c (.int .i64 (Int.ofNat 0))], none⟩] false) c18_6) c18_5)
def c18_4 : C := .ret
def c18_3 : C := (.keep [4] c18_4)
def c18_2 : C := (.cond (.t 19) (.seq (.region [
      ⟨(some 4), (.pure .mov), [.c (.bool false)], none⟩] false) c18_3)
    .skip)
def c18_0 : C := (.seq (.seq (.region [
      ⟨(some 6), (.pure (.fadd 0)), [.t 2], none⟩,
      ⟨(some 7), (.read (.load 1 false) []), [.t 6], none⟩,
      ⟨(some 8), (.pure (.fadd 0)), [.t 3], none⟩,
      ⟨(some 9), (.read (.load 1 false) []), [.t 8], none⟩,
      ⟨(some 10), (.pure (.bin .neq)), [.t 7, .t 9], none⟩,
      ⟨(some 11), (.pure .mov), [.t 10], none⟩,
      ⟨(some 12), (.pure (.fadd 1)), [.t 2], (some (11, false))⟩,
      ⟨(some 13), (.read (.load 1 false) []), [.t 12], (some (11, false))⟩,
      ⟨(some 14), (.pure .lenS), [.t 13], (some (11, false))⟩,
      ⟨(some 15), (.pure (.fadd 1)), [.t 3], (some (11, false))⟩,
      ⟨(some 16), (.read (.load 1 false) []), [.t 15], (some (11, false))⟩,
      ⟨(some 17), (.pure .lenS), [.t 16], (some (11, false))⟩,
      ⟨(some 18), (.pure (.bin .neq)), [.t 14, .t 17], (some (11, false))⟩,
      ⟨(some 19), (.pure .pick), [.t 11, .c (.bool true), .t 18], none⟩] false) c18_2) c18_1)
def k18 : DFn := ⟨38, (.seq (.region [
      ⟨(some 2), (.alloc .box), [.t 0], none⟩,
      ⟨(some 3), (.alloc .box), [.t 1], none⟩,
      ⟨(some 4), (.pure .mov), [.c (.bool false)], none⟩] false) c18_0), [.tmp 4]⟩
theorem c18 : (match Try.prog.funcs[18]? with | some fn => compileFn Try.prog 0 [none, none, none, none, some [4], some [], none, some [2, 3, 5], none, none, some [], none, none, none, some [4], none, some [4]] fn | none => none) = some k18 := by kernel_rfl
def q18_0 (tb : Nat → Option DFn) (nv : CallF) (Q : Value → Heap → Prop) : Kont := kSeq (fun wf H => wC tb nv c18_5 wf H (kFn [.tmp 4] Q)) (kFn [.tmp 4] Q)
def q18_1 (tb : Nat → Option DFn) (nv : CallF) (Q : Value → Heap → Prop) : Kont := kBlk 0 (q18_0 tb nv Q)
def w18_17 (tb : Nat → Option DFn) (nv : CallF) (H : Heap) (Q : Value → Heap → Prop) : Prop := wC tb nv c18_17 (mkW []) H (kFn [.tmp 4] Q)
theorem e18 (tb : Nat → Option DFn) (nv : CallF) (a0 a1 : Value) (H : Heap) (Q : Value → Heap → Prop) : wFn tb nv k18 [a0, a1] H Q = (
    wA .box [a0] H fun x0 H1 =>
    wA .box [a1] H1 fun x2 H3 =>
    wP (.fadd 0) [x0] fun x4 =>
    wR (.load 1 false) [x4] H3 fun x5 =>
    wP (.fadd 0) [x2] fun x6 =>
    wR (.load 1 false) [x6] H3 fun x7 =>
    wP (.bin .neq) [x5, x7] fun x8 =>
    asB x8 fun b9 => onB b9 (atK (Q (.bool false) H3))
    (wP (.fadd 1) [x0] fun x10 =>
    wR (.load 1 false) [x10] H3 fun x11 =>
    wP .lenS [x11] fun x12 =>
    wP (.fadd 1) [x2] fun x13 =>
    wR (.load 1 false) [x13] H3 fun x14 =>
    wP .lenS [x14] fun x15 =>
    wP (.bin .neq) [x12, x15] fun x16 =>
    asB x16 fun b17 => onB b17 (atK (Q (.bool false) H3))
    (wLoop tb nv c18_7 [2, 3, 5] (mkW [(2, x0), (3, x2), (5, (.int .i64 0))]) H3 (q18_1 tb nv Q)))) := by kernel_rfl
theorem l18_7 (tb : Nat → Option DFn) (nv : CallF) (t2 t3 t5 : Value) (H : Heap) (K : Kont) : wC tb nv c18_7 (mkW [(2, t2), (3, t3), (5, t5)]) H K = (
    wP (.fadd 1) [t2] fun x18 =>
    wR (.load 1 false) [x18] H fun x19 =>
    wP .lenS [x19] fun x20 =>
    wP (.bin .lss) [t5, x20] fun x21 =>
    asB x21 fun b22 => onB b22 (wP (.fadd 1) [t2] fun x23 =>
    wR (.load 1 false) [x23] H fun x24 =>
    wP (.iaddS 3) [x24, t5] fun x25 =>
    wR (.load 3 true) [x25] H fun x26 =>
    wP (.fadd 1) [t3] fun x27 =>
    wR (.load 1 false) [x27] H fun x28 =>
    wP (.iaddS 3) [x28, t5] fun x29 =>
    wR (.load 3 true) [x29] H fun x30 =>
    wP (.aggEq true [.i, .i, .b]) [x26, x30] fun x31 =>
    asB x31 fun b32 => onB b32 (atK (K .ret (mkW [(4, (.bool false))]) H))
    (wP (.bin .add) [t5, (.int .i64 1)] fun x33 =>
    atK (K .normal (mkW [(2, t2), (3, t3), (5, x33)]) H)))
    (atK (K (.exit 0) (mkW []) H))) := by kernel_rfl
theorem x18_7_0 (tb : Nat → Option DFn) (nv : CallF) (t4 : Value) (H : Heap) (Q : Value → Heap → Prop) : (q18_1 tb nv Q) .ret (mkW [(4, t4)]) H = (
    Q t4 H) := by kernel_rfl
theorem x18_7_1 (tb : Nat → Option DFn) (nv : CallF) (H : Heap) (Q : Value → Heap → Prop) : (q18_1 tb nv Q) (.exit 0) (mkW []) H = (
    atK (w18_17 tb nv  H Q)) := by kernel_rfl
theorem e18_17 (tb : Nat → Option DFn) (nv : CallF) (H : Heap) (Q : Value → Heap → Prop) : w18_17 tb nv  H Q = (
    atK (Q (.bool true) H)) := by kernel_rfl

/-- (*tompion/client.Client).Config -/
def c19_6 : C := .ret
def c19_5 : C := (.keep [2] c19_6)
def c19_1 : C := (.seq (.region [
      ⟨(some 6), (.pure .mov), [.t 0], none⟩,
      ⟨(some 7), (.pure .nilchk), [.t 6], none⟩,
      ⟨(some 8), (.pure (.fadd 3)), [.t 7], none⟩,
      ⟨(some 9), (.pure (.fadd 0)), [.t 8], none⟩,
      ⟨(some 10), (.read (.load 1 false) [11]), [.t 9], none⟩,
      ⟨(some 11), (.pure .mov), [.t 0], none⟩,
      ⟨(some 12), (.pure .nilchk), [.t 11], none⟩,
      ⟨(some 13), (.pure (.fadd 3)), [.t 12], none⟩,
      ⟨(some 14), (.pure (.fadd 1)), [.t 13], none⟩,
      ⟨(some 15), (.read (.load 1 false) []), [.t 14], none⟩,
      ⟨(some 16), (.call 24), [.t 15], none⟩,
      ⟨(some 17), (.pure (.build [(.int .i64 (Int.ofNat 0)), (.slice none 0 0)] [(0, 1), (1, 1)])), [.t 10, .t 16], none⟩,
      ⟨none, (.eff (.store 2)), [.t 2, .t 17], none⟩] true) c19_5)
def c19_4 : C := .ret
def c19_3 : C := (.keep [2] c19_4)
def c19_2 : C := (.cond (.t 4) (.seq (.region [
      ⟨(some 5), (.pure (.build [(.int .i64 (Int.ofNat 0)), (.slice none 0 0)] [])), [], none⟩,
      ⟨none, (.eff (.store 2)), [.t 2, .t 5], none⟩] false) c19_3)
    .skip)
def c19_0 : C := (.seq (.seq (.region [
      ⟨(some 3), (.pure .mov), [.t 0], none⟩,
      ⟨(some 4), (.pure (.nilEq false .ptr)), [.t 3], none⟩] false) c19_2) c19_1)
def k19 : DFn := ⟨18, (.seq (.region [
      ⟨(some 2), (.alloc (.alloc [(.int .i64 (Int.ofNat 0)), (.slice none 0 0)])), [], none⟩] false) c19_0), [.cell 2 2 true]⟩
theorem c19 : (match Try.prog.funcs[19]? with | some fn => compileFn Try.prog 0 [none, none, none, none, some [2], none, some [2]] fn | none => none) = some k19 := by kernel_rfl
theorem e19 (tb : Nat → Option DFn) (nv : CallF) (a0 : Value) (H : Heap) (Q : Value → Heap → Prop) : wFn tb nv k19 [a0] H Q = (
    wA (.alloc [(.int .i64 0), (.slice none 0 0)]) [] H fun x0 H1 =>
    wP (.nilEq false .ptr) [a0] fun x2 =>
    asB x2 fun b3 => onB b3 (wP (.build [(.int .i64 0), (.slice none 0 0)] []) [] fun x4 =>
    wE (.store 2) [x0, x4] H1 fun x5 H6 =>
    atK (wR (.load 2 true) [x0] H6 fun x7 =>
    Q x7 H6))
    (wP .nilchk [a0] fun x8 =>
    wP (.fadd 3) [x8] fun x9 =>
    wP (.fadd 0) [x9] fun x10 =>
    wR (.load 1 false) [x10] H1 fun x11 =>
    wP .nilchk [a0] fun x12 =>
    wP (.fadd 3) [x12] fun x13 =>
    wP (.fadd 1) [x13] fun x14 =>
    wR (.load 1 false) [x14] H1 fun x15 =>
    Ev tb nv 24 [x15] H1 fun x16 H17 =>
    wP (.build [(.int .i64 0), (.slice none 0 0)] [(0, 1), (1, 1)]) [x11, x16] fun x18 =>
    wE (.store 2) [x0, x18] H17 fun x19 H20 =>
    wChk [H1, H1, H1, H1, H1, H1, H1, H1, H1, H1, H1, H17, H17, H20] [⟨(.load 1 false), [x10], x11, [11]⟩] (atK (wR (.load 2 true) [x0] H20 fun x21 =>
    Q x21 H20)))) := by kernel_rfl

/-- tompion/tompionref12.Few -/
def c20_2 : C := .ret
def c20_1 : C := (.keep [2] c20_2)
def c20_0 : C := (.seq (.region [
      ⟨(some 3), (.pure (.fadd 11)), [.t 1], none⟩,
      ⟨(some 4), (.pure (.fadd 9)), [.t 3], none⟩,
      ⟨(some 5), (.read (.load 1 false) []), [.t 4], none⟩,
      ⟨(some 6), (.pure .lenStr), [.t 5], none⟩,
      ⟨(some 7), (.pure (.bin .leq)), [.t 6, .c (.int .i64 (Int.ofNat 1000))], none⟩,
      ⟨(some 8), (.pure .mov), [.t 7], none⟩,
      ⟨(some 9), (.pure (.fadd 24)), [.t 1], (some (8, true))⟩,
      ⟨(some 10), (.pure (.fadd 1)), [.t 9], (some (8, true))⟩,
      ⟨(some 11), (.read (.load 1 false) []), [.t 10], (some (8, true))⟩,
      ⟨(some 12), (.pure .lenS), [.t 11], (some (8, true))⟩,
      ⟨(some 13), (.pure (.bin .leq)), [.t 12, .c (.int .i64 (Int.ofNat 40))], (some (8, true))⟩,
      ⟨(some 14), (.pure .pick), [.t 8, .t 13, .c (.bool false)], none⟩,
      ⟨(some 15), (.pure .mov), [.t 14], none⟩,
      ⟨(some 16), (.pure (.fadd 26)), [.t 1], (some (15, true))⟩,
      ⟨(some 17), (.read (.load 1 false) []), [.t 16], (some (15, true))⟩,
      ⟨(some 18), (.pure .lenS), [.t 17], (some (15, true))⟩,
      ⟨(some 19), (.pure (.bin .leq)), [.t 18, .c (.int .i64 (Int.ofNat 40))], (some (15, true))⟩,
      ⟨(some 20), (.pure .pick), [.t 15, .t 19, .c (.bool false)], none⟩,
      ⟨(some 2), (.pure .mov), [.t 20], none⟩] false) c20_1)
def k20 : DFn := ⟨21, (.seq (.region [
      ⟨(some 1), (.alloc .box), [.t 0], none⟩,
      ⟨(some 2), (.pure .mov), [.c (.bool false)], none⟩] false) c20_0), [.tmp 2]⟩
theorem c20 : (match Try.prog.funcs[20]? with | some fn => compileFn Try.prog 0 [none, none, some [2]] fn | none => none) = some k20 := by kernel_rfl
theorem e20 (tb : Nat → Option DFn) (nv : CallF) (a0 : Value) (H : Heap) (Q : Value → Heap → Prop) : wFn tb nv k20 [a0] H Q = (
    wA .box [a0] H fun x0 H1 =>
    wP (.fadd 11) [x0] fun x2 =>
    wP (.fadd 9) [x2] fun x3 =>
    wR (.load 1 false) [x3] H1 fun x4 =>
    wP .lenStr [x4] fun x5 =>
    wP (.bin .leq) [x5, (.int .i64 1000)] fun x6 =>
    asB x6 fun b7 => onB b7 (wP (.fadd 24) [x0] fun x8 =>
    wP (.fadd 1) [x8] fun x9 =>
    wR (.load 1 false) [x9] H1 fun x10 =>
    wP .lenS [x10] fun x11 =>
    wP (.bin .leq) [x11, (.int .i64 40)] fun x12 =>
    asB x12 fun b13 => onB b13 (wP (.fadd 26) [x0] fun x14 =>
    wR (.load 1 false) [x14] H1 fun x15 =>
    wP .lenS [x15] fun x16 =>
    wP (.bin .leq) [x16, (.int .i64 40)] fun x17 =>
    atK (Q x17 H1))
    (atK (Q (.bool false) H1)))
    (atK (Q (.bool false) H1))) := by kernel_rfl

/-- tompion/tompionref11.First -/
def c21_13 : C := .ret
def c21_12 : C := (.keep [2] c21_13)
def c21_11 : C := (.seq (.region [
      ⟨(some 19), (.read (.load 2 true) []), [.t 3], none⟩,
      ⟨none, (.eff (.store 2)), [.t 2, .t 19], none⟩] false) c21_12)
def c21_2 : C := (.keep [2, 3] c21_11)
def c21_10 : C := .skip
def c21_5 : C := (.keep [0, 2, 3, 4] c21_10)
def c21_9 : C := (.region [
      ⟨(some 9), (.pure .mov), [.t 4], none⟩,
      ⟨(some 10), (.pure (.bin .add)), [.t 9, .c (.int .i64 (Int.ofNat 1))], none⟩,
      ⟨(some 4), (.pure .mov), [.t 10], none⟩] false)
def c21_6 : C := (.seq (.block 1 (.region [
      ⟨(some 11), (.pure (.fadd 1)), [.t 3], none⟩,
      ⟨(some 12), (.read (.load 1 false) []), [.t 11], none⟩,
      ⟨(some 13), (.pure .mov), [.t 4], none⟩,
      ⟨(some 14), (.pure (.build [(.int .i64 (Int.ofNat 0)), (.int .i64 (Int.ofNat 0))] [(0, 1), (1, 1)])), [.t 13, .c (.int .i64 (Int.ofNat 1))], none⟩,
      ⟨(some 15), (.pure (.build [(.int .i64 (Int.ofNat 0)), (.int .i64 (Int.ofNat 0)), (.bool false)] [(0, 2), (2, 1)])), [.t 14, .c (.bool true)], none⟩,
      ⟨(some 16), (.alloc (.bslice [(.int .i64 (Int.ofNat 0)), (.int .i64 (Int.ofNat 0)), (.bool false)] [(0, 3)] 3 1)), [.t 15], none⟩,
      ⟨(some 17), (.eff (.app 3 24)), [.t 12, .t 16], none⟩,
      ⟨(some 18), (.pure (.fadd 1)), [.t 3], none⟩,
      ⟨none, (.eff (.store 1)), [.t 18, .t 17], none⟩] false)) c21_9)
def c21_8 : C := (.exit 0)
def c21_7 : C := (.cond (.t 8) .skip
    (.keep [2, 3] c21_8))
def c21_4 : C := (.seq (.seq (.seq (.region [
      ⟨(some 6), (.pure .mov), [.t 4], none⟩,
      ⟨(some 7), (.pure .mov), [.t 0], none⟩,
      ⟨(some 8), (.pure (.bin .lss)), [.t 6, .t 7], none⟩] false) c21_7) c21_6) c21_5)
def c21_3 : C := (.block 0 (.loop (some [0, 2, 3, 4]) c21_4))
def c21_1 : C := (.seq (.seq (.region [
      ⟨(some 4), (.pure .mov), [.c (.int .i64 (Int.ofNat 0))], none⟩] false) c21_3) c21_2)
def c21_0 : C := (.seq (.region [
      ⟨(some 5), (.pure (.build [(.int .i64 (Int.ofNat 0)), (.slice none 0 0)] [(0, 1)])), [.c (.int .i64 (Int.ofNat 1))], none⟩,
      ⟨(some 3), (.alloc (.alloc [(.int .i64 (Int.ofNat 0)), (.slice none 0 0)])), [], none⟩,
      ⟨none, (.eff (.store 2)), [.t 3, .t 5], none⟩] false) c21_1)
def k21 : DFn := ⟨20, (.seq (.region [
      ⟨(some 2), (.alloc (.alloc [(.int .i64 (Int.ofNat 0)), (.slice none 0 0)])), [], none⟩] false) c21_0), [.cell 2 2 true]⟩
theorem c21 : (match Try.prog.funcs[21]? with | some fn => compileFn Try.prog 0 [none, none, some [2, 3], none, some [0, 2, 3, 4], none, none, some [2, 3], none, none, some [2]] fn | none => none) = some k21 := by kernel_rfl
def q21_0 (tb : Nat → Option DFn) (nv : CallF) (Q : Value → Heap → Prop) : Kont := kSeq (fun wf H => wC tb nv c21_2 wf H (kFn [.cell 2 2 true] Q)) (kFn [.cell 2 2 true] Q)
def q21_1 (tb : Nat → Option DFn) (nv : CallF) (Q : Value → Heap → Prop) : Kont := kBlk 0 (q21_0 tb nv Q)
def w21_11 (tb : Nat → Option DFn) (nv : CallF) (t2 t3 : Value) (H : Heap) (Q : Value → Heap → Prop) : Prop := wC tb nv c21_11 (mkW [(2, t2), (3, t3)]) H (kFn [.cell 2 2 true] Q)
theorem e21 (tb : Nat → Option DFn) (nv : CallF) (a0 : Value) (H : Heap) (Q : Value → Heap → Prop) : wFn tb nv k21 [a0] H Q = (
    wA (.alloc [(.int .i64 0), (.slice none 0 0)]) [] H fun x0 H1 =>
    wP (.build [(.int .i64 0), (.slice none 0 0)] [(0, 1)]) [(.int .i64 1)] fun x2 =>
    wA (.alloc [(.int .i64 0), (.slice none 0 0)]) [] H1 fun x3 H4 =>
    wE (.store 2) [x3, x2] H4 fun x5 H6 =>
    wLoop tb nv c21_4 [0, 2, 3, 4] (mkW [(0, a0), (2, x0), (3, x3), (4, (.int .i64 0))]) H6 (q21_1 tb nv Q)) := by kernel_rfl
theorem l21_4 (tb : Nat → Option DFn) (nv : CallF) (t0 t2 t3 t4 : Value) (H : Heap) (K : Kont) : wC tb nv c21_4 (mkW [(0, t0), (2, t2), (3, t3), (4, t4)]) H K = (
    wP (.bin .lss) [t4, t0] fun x7 =>
    asB x7 fun b8 => onB b8 (wP (.fadd 1) [t3] fun x9 =>
    wR (.load 1 false) [x9] H fun x10 =>
    wP (.build [(.int .i64 0), (.int .i64 0)] [(0, 1), (1, 1)]) [t4, (.int .i64 1)] fun x11 =>
    wP (.build [(.int .i64 0), (.int .i64 0), (.bool false)] [(0, 2), (2, 1)]) [x11, (.bool true)] fun x12 =>
    wA (.bslice [(.int .i64 0), (.int .i64 0), (.bool false)] [(0, 3)] 3 1) [x12] H fun x13 H14 =>
    wE (.app 3 24) [x10, x13] H14 fun x15 H16 =>
    wP (.fadd 1) [t3] fun x17 =>
    wE (.store 1) [x17, x15] H16 fun x18 H19 =>
    wP (.bin .add) [t4, (.int .i64 1)] fun x20 =>
    atK (K .normal (mkW [(0, t0), (2, t2), (3, t3), (4, x20)]) H19))
    (atK (K (.exit 0) (mkW [(2, t2), (3, t3)]) H))) := by kernel_rfl
theorem x21_4_0 (tb : Nat → Option DFn) (nv : CallF) (t2 t3 : Value) (H : Heap) (Q : Value → Heap → Prop) : (q21_1 tb nv Q) (.exit 0) (mkW [(2, t2), (3, t3)]) H = (
    atK (w21_11 tb nv t2 t3 H Q)) := by kernel_rfl
theorem e21_11 (tb : Nat → Option DFn) (nv : CallF) (t2 t3 : Value) (H : Heap) (Q : Value → Heap → Prop) : w21_11 tb nv t2 t3 H Q = (
    wR (.load 2 true) [t3] H fun x21 =>
    wE (.store 2) [t2, x21] H fun x22 H23 =>
    atK (wR (.load 2 true) [t2] H23 fun x24 =>
    Q x24 H23)) := by kernel_rfl

/-- (*tompion/client.Client).ask -/
def c22_23 : C := .ret
def c22_22 : C := (.keep [2] c22_23)
def c22_21 : C := (.seq (.region [
      ⟨(some 128), (.read (.load 28 true) []), [.t 9], none⟩,
      ⟨(some 129), (.alloc (.bslice [(.int .i64 (Int.ofNat 0)), (.int .i64 (Int.ofNat 0)), (.int .i64 (Int.ofNat 0)), (.int .i64 (Int.ofNat 0)), (.int .i64 (Int.ofNat 0)), (.int .i64 (Int.ofNat 0)), (.int .i64 (Int.ofNat 0)), (.int .i64 (Int.ofNat 0)), (.int .i64 (Int.ofNat 0)), (.int .i64 (Int.ofNat 0)), (.bool false), (.int .i64 (Int.ofNat 0)), (.int .i64 (Int.ofNat 0)), (.int .i64 (Int.ofNat 0)), (.int .i64 (Int.ofNat 0)), (.int .i64 (Int.ofNat 0)), (.int .i64 (Int.ofNat 0)), (.int .i64 (Int.ofNat 0)), (.int .i64 (Int.ofNat 0)), (.int .i64 (Int.ofNat 0)), (.string ⟨⟨[]⟩⟩), (.int .i64 (Int.ofNat 0)), (.int .i64 (Int.ofNat 0)), (.int .i64 (Int.ofNat 0)), (.int .i64 (Int.ofNat 0)), (.slice none 0 0), (.slice none 0 0), (.int .i64 (Int.ofNat 0))] [(0, 28)] 28 1)), [.t 128], none⟩,
      ⟨(some 2), (.pure .mov), [.t 129], none⟩] false) c22_22)
def c22_20 : C := (.seq (.region [
      ⟨(some 111), (.pure .mov), [.t 0], none⟩,
      ⟨(some 112), (.pure .nilchk), [.t 111], none⟩,
      ⟨(some 113), (.pure (.fadd 0)), [.t 112], none⟩,
      ⟨(some 114), (.read (.load 1 false) []), [.t 113], none⟩,
      ⟨(some 115), (.pure .mov), [.t 0], none⟩,
      ⟨(some 116), (.pure .nilchk), [.t 115], none⟩,
      ⟨(some 117), (.pure (.fadd 2)), [.t 116], none⟩,
      ⟨(some 118), (.read (.load 1 false) []), [.t 117], none⟩,
      ⟨(some 119), (.pure .nilchk), [.t 118], none⟩,
      ⟨(some 120), (.pure (.fadd 5)), [.t 119], none⟩,
      ⟨(some 121), (.read (.load 1 false) []), [.t 120], none⟩,
      ⟨(some 122), (.pure .mov), [.t 5], none⟩,
      ⟨(some 123), (.pure .nilchk), [.t 122], none⟩,
      ⟨(some 124), (.pure (.fadd 1)), [.t 123], none⟩,
      ⟨(some 125), (.read (.load 1 false) []), [.t 124], none⟩,
      ⟨(some 126), (.pure (.build [(.int .i64 (Int.ofNat 0)), (.int .i64 (Int.ofNat 0)), (.int .i64 (Int.ofNat 0)), (.int .i64 (Int.ofNat 0)), (.int .i64 (Int.ofNat 0)), (.int .i64 (Int.ofNat 0)), (.int .i64 (Int.ofNat 0)), (.int .i64 (Int.ofNat 0)), (.int .i64 (Int.ofNat 0)), (.string ⟨⟨[]⟩⟩)] [(0, 1), (1, 1), (2, 1), (3, 1)])), [.c (.int .i64 (Int.ofNat 2)), .t 114, .t 121, .t 125], none⟩,
      ⟨(some 127), (.pure (.fadd 11)), [.t 9], none⟩,
      ⟨none, (.eff (.store 10)), [.t 127, .t 126], none⟩] false) c22_21)
def c22_7 : C := (.seq (.region [
      ⟨(some 107), (.pure .mov), [.t 0], none⟩,
      ⟨(some 108), (.pure (.fadd 0)), [.t 3], none⟩,
      ⟨(some 109), (.read (.load 1 false) []), [.t 108], none⟩,
      ⟨(some 110), (.call 30), [.t 107, .c (.int .i64 (Int.ofNat 7)), .t 109], none⟩,
      ⟨(some 9), (.alloc (.alloc [(.int .i64 (Int.ofNat 0)), (.int .i64 (Int.ofNat 0)), (.int .i64 (Int.ofNat 0)), (.int .i64 (Int.ofNat 0)), (.int .i64 (Int.ofNat 0)), (.int .i64 (Int.ofNat 0)), (.int .i64 (Int.ofNat 0)), (.int .i64 (Int.ofNat 0)), (.int .i64 (Int.ofNat 0)), (.int .i64 (Int.ofNat 0)), (.bool false), (.int .i64 (Int.ofNat 0)), (.int .i64 (Int.ofNat 0)), (.int .i64 (Int.ofNat 0)), (.int .i64 (Int.ofNat 0)), (.int .i64 (Int.ofNat 0)), (.int .i64 (Int.ofNat 0)), (.int .i64 (Int.ofNat 0)), (.int .i64 (Int.ofNat 0)), (.int .i64 (Int.ofNat 0)), (.string ⟨⟨[]⟩⟩), (.int .i64 (Int.ofNat 0)), (.int .i64 (Int.ofNat 0)), (.int .i64 (Int.ofNat 0)), (.int .i64 (Int.ofNat 0)), (.slice none 0 0), (.slice none 0 0), (.int .i64 (Int.ofNat 0))])), [], none⟩,
      ⟨none, (.eff (.store 28)), [.t 9, .t 110], none⟩] false) c22_20)
def c22_14 : C := .ret
def c22_13 : C := (.keep [2] c22_14)
def c22_12 : C := (.seq (.region [
      ⟨(some 72), (.read (.load 28 true) []), [.t 7], none⟩,
      ⟨(some 73), (.alloc (.bslice [(.int .i64 (Int.ofNat 0)), (.int .i64 (Int.ofNat 0)), (.int .i64 (Int.ofNat 0)), (.int .i64 (Int.ofNat 0)), (.int .i64 (Int.ofNat 0)), (.int .i64 (Int.ofNat 0)), (.int .i64 (Int.ofNat 0)), (.int .i64 (Int.ofNat 0)), (.int .i64 (Int.ofNat 0)), (.int .i64 (Int.ofNat 0)), (.bool false), (.int .i64 (Int.ofNat 0)), (.int .i64 (Int.ofNat 0)), (.int .i64 (Int.ofNat 0)), (.int .i64 (Int.ofNat 0)), (.int .i64 (Int.ofNat 0)), (.int .i64 (Int.ofNat 0)), (.int .i64 (Int.ofNat 0)), (.int .i64 (Int.ofNat 0)), (.int .i64 (Int.ofNat 0)), (.string ⟨⟨[]⟩⟩), (.int .i64 (Int.ofNat 0)), (.int .i64 (Int.ofNat 0)), (.int .i64 (Int.ofNat 0)), (.int .i64 (Int.ofNat 0)), (.slice none 0 0), (.slice none 0 0), (.int .i64 (Int.ofNat 0))] [(0, 28)] 28 1)), [.t 72], none⟩,
      ⟨(some 2), (.pure .mov), [.t 73], none⟩] false) c22_13)
def c22_11 : C := (.seq (.region [
      ⟨(some 59), (.pure .mov), [.t 0], none⟩,
      ⟨(some 60), (.pure .nilchk), [.t 59], none⟩,
      ⟨(some 61), (.pure (.fadd 2)), [.t 60], none⟩,
      ⟨(some 62), (.read (.load 1 false) []), [.t 61], none⟩,
      ⟨(some 63), (.pure .nilchk), [.t 62], none⟩,
      ⟨(some 64), (.pure (.fadd 5)), [.t 63], none⟩,
      ⟨(some 65), (.read (.load 1 false) []), [.t 64], none⟩,
      ⟨(some 66), (.pure .mov), [.t 5], none⟩,
      ⟨(some 67), (.pure .nilchk), [.t 66], none⟩,
      ⟨(some 68), (.pure (.fadd 1)), [.t 67], none⟩,
      ⟨(some 69), (.read (.load 1 false) [13]), [.t 68], none⟩,
      ⟨(some 70), (.pure (.fadd 6)), [.t 7], none⟩,
      ⟨none, (.eff (.store 1)), [.t 70, .t 65], none⟩,
      ⟨(some 71), (.pure (.fadd 8)), [.t 7], none⟩,
      ⟨none, (.eff (.store 1)), [.t 71, .t 69], none⟩] true) c22_12)
def c22_10 : C := (.seq (.region [
      ⟨(some 54), (.pure .mov), [.t 0], none⟩,
      ⟨(some 55), (.pure (.fadd 0)), [.t 6], none⟩,
      ⟨(some 56), (.pure (.fadd 0)), [.t 55], none⟩,
      ⟨(some 57), (.read (.load 1 false) []), [.t 56], none⟩,
      ⟨(some 58), (.call 30), [.t 54, .c (.int .i64 (Int.ofNat 9)), .t 57], none⟩,
      ⟨(some 7), (.alloc (.alloc [(.int .i64 (Int.ofNat 0)), (.int .i64 (Int.ofNat 0)), (.int .i64 (Int.ofNat 0)), (.int .i64 (Int.ofNat 0)), (.int .i64 (Int.ofNat 0)), (.int .i64 (Int.ofNat 0)), (.int .i64 (Int.ofNat 0)), (.int .i64 (Int.ofNat 0)), (.int .i64 (Int.ofNat 0)), (.int .i64 (Int.ofNat 0)), (.bool false), (.int .i64 (Int.ofNat 0)), (.int .i64 (Int.ofNat 0)), (.int .i64 (Int.ofNat 0)), (.int .i64 (Int.ofNat 0)), (.int .i64 (Int.ofNat 0)), (.int .i64 (Int.ofNat 0)), (.int .i64 (Int.ofNat 0)), (.int .i64 (Int.ofNat 0)), (.int .i64 (Int.ofNat 0)), (.string ⟨⟨[]⟩⟩), (.int .i64 (Int.ofNat 0)), (.int .i64 (Int.ofNat 0)), (.int .i64 (Int.ofNat 0)), (.int .i64 (Int.ofNat 0)), (.slice none 0 0), (.slice none 0 0), (.int .i64 (Int.ofNat 0))])), [], none⟩,
      ⟨none, (.eff (.store 28)), [.t 7, .t 58], none⟩] false) c22_11)
def c22_19 : C := .ret
def c22_18 : C := (.keep [2] c22_19)
def c22_17 : C := (.seq (.region [
      ⟨(some 105), (.read (.load 28 true) []), [.t 8], none⟩,
      ⟨(some 106), (.alloc (.bslice [(.int .i64 (Int.ofNat 0)), (.int .i64 (Int.ofNat 0)), (.int .i64 (Int.ofNat 0)), (.int .i64 (Int.ofNat 0)), (.int .i64 (Int.ofNat 0)), (.int .i64 (Int.ofNat 0)), (.int .i64 (Int.ofNat 0)), (.int .i64 (Int.ofNat 0)), (.int .i64 (Int.ofNat 0)), (.int .i64 (Int.ofNat 0)), (.bool false), (.int .i64 (Int.ofNat 0)), (.int .i64 (Int.ofNat 0)), (.int .i64 (Int.ofNat 0)), (.int .i64 (Int.ofNat 0)), (.int .i64 (Int.ofNat 0)), (.int .i64 (Int.ofNat 0)), (.int .i64 (Int.ofNat 0)), (.int .i64 (Int.ofNat 0)), (.int .i64 (Int.ofNat 0)), (.string ⟨⟨[]⟩⟩), (.int .i64 (Int.ofNat 0)), (.int .i64 (Int.ofNat 0)), (.int .i64 (Int.ofNat 0)), (.int .i64 (Int.ofNat 0)), (.slice none 0 0), (.slice none 0 0), (.int .i64 (Int.ofNat 0))] [(0, 28)] 28 1)), [.t 105], none⟩,
      ⟨(some 2), (.pure .mov), [.t 106], none⟩] false) c22_18)
def c22_16 : C := (.seq (.region [
      ⟨(some 80), (.pure .mov), [.t 0], none⟩,
      ⟨(some 81), (.pure .nilchk), [.t 80], none⟩,
      ⟨(some 82), (.pure (.fadd 0)), [.t 81], none⟩,
      ⟨(some 83), (.read (.load 1 false) []), [.t 82], none⟩,
      ⟨(some 84), (.pure .mov), [.t 0], none⟩,
      ⟨(some 85), (.pure .nilchk), [.t 84], none⟩,
      ⟨(some 86), (.pure (.fadd 2)), [.t 85], none⟩,
      ⟨(some 87), (.read (.load 1 false) []), [.t 86], none⟩,
      ⟨(some 88), (.pure .nilchk), [.t 87], none⟩,
      ⟨(some 89), (.pure (.fadd 5)), [.t 88], none⟩,
      ⟨(some 90), (.read (.load 1 false) []), [.t 89], none⟩,
      ⟨(some 91), (.pure .mov), [.t 5], none⟩,
      ⟨(some 92), (.pure .nilchk), [.t 91], none⟩,
      ⟨(some 93), (.pure (.fadd 1)), [.t 92], none⟩,
      ⟨(some 94), (.read (.load 1 false) []), [.t 93], none⟩,
      ⟨(some 95), (.pure .mov), [.t 5], none⟩,
      ⟨(some 96), (.pure .nilchk), [.t 95], none⟩,
      ⟨(some 97), (.pure (.fadd 2)), [.t 96], none⟩,
      ⟨(some 98), (.read (.load 1 false) []), [.t 97], none⟩,
      ⟨(some 99), (.pure .mov), [.t 5], none⟩,
      ⟨(some 100), (.pure .nilchk), [.t 99], none⟩,
      ⟨(some 101), (.pure (.fadd 4)), [.t 100], none⟩,
      ⟨(some 102), (.read (.load 1 false) []), [.t 101], none⟩,
      ⟨(some 103), (.pure (.build [(.int .i64 (Int.ofNat 0)), (.int .i64 (Int.ofNat 0)), (.int .i64 (Int.ofNat 0)), (.int .i64 (Int.ofNat 0)), (.int .i64 (Int.ofNat 0)), (.int .i64 (Int.ofNat 0)), (.int .i64 (Int.ofNat 0)), (.int .i64 (Int.ofNat 0)), (.int .i64 (Int.ofNat 0)), (.string ⟨⟨[]⟩⟩)] [(0, 1), (1, 1), (2, 1), (3, 1), (6, 1), (9, 1)])), [.c (.int .i64 (Int.ofNat 1)), .t 83, .t 90, .t 94, .t 98, .t 102], none⟩,
      ⟨(some 104), (.pure (.fadd 11)), [.t 8], none⟩,
      ⟨none, (.eff (.store 10)), [.t 104, .t 103], none⟩] false) c22_17)
def c22_15 : C := (.cond (.t 74) (.seq (.region [
      ⟨(some 76), (.pure .mov), [.t 0], none⟩,
      ⟨(some 77), (.pure (.fadd 0)), [.t 3], none⟩,
      ⟨(some 78), (.read (.load 1 false) []), [.t 77], none⟩,
      ⟨(some 79), (.call 30), [.t 76, .c (.int .i64 (Int.ofNat 7)), .t 78], none⟩,
      ⟨(some 8), (.alloc (.alloc [(.int .i64 (Int.ofNat 0)), (.int .i64 (Int.ofNat 0)), (.int .i64 (Int.ofNat 0)), (.int .i64 (Int.ofNat 0)), (.int .i64 (Int.ofNat 0)), (.int .i64 (Int.ofNat 0)), (.int .i64 (Int.ofNat 0)), (.int .i64 (Int.ofNat 0)), (.int .i64 (Int.ofNat 0)), (.int .i64 (Int.ofNat 0)), (.bool false), (.int .i64 (Int.ofNat 0)), (.int .i64 (Int.ofNat 0)), (.int .i64 (Int.ofNat 0)), (.int .i64 (Int.ofNat 0)), (.int .i64 (Int.ofNat 0)), (.int .i64 (Int.ofNat 0)), (.int .i64 (Int.ofNat 0)), (.int .i64 (Int.ofNat 0)), (.int .i64 (Int.ofNat 0)), (.string ⟨⟨[]⟩⟩), (.int .i64 (Int.ofNat 0)), (.int .i64 (Int.ofNat 0)), (.int .i64 (Int.ofNat 0)), (.int .i64 (Int.ofNat 0)), (.slice none 0 0), (.slice none 0 0), (.int .i64 (Int.ofNat 0))])), [], none⟩,
      ⟨none, (.eff (.store 28)), [.t 8, .t 79], none⟩] false) c22_16)
    .skip)
def c22_9 : C := (.cond (.t 33) (.seq (.region [
      ⟨(some 35), (.pure .mov), [.t 0], none⟩,
      ⟨(some 36), (.pure .nilchk), [.t 35], none⟩,
      ⟨(some 37), (.pure (.fadd 3)), [.t 36], none⟩,
      ⟨(some 38), (.pure (.fadd 1)), [.t 37], none⟩,
      ⟨(some 39), (.read (.load 1 false) []), [.t 38], none⟩,
      ⟨(some 40), (.pure .mov), [.t 5], none⟩,
      ⟨(some 41), (.pure .nilchk), [.t 40], none⟩,
      ⟨(some 42), (.pure (.fadd 3)), [.t 41], none⟩,
      ⟨(some 43), (.read (.load 1 false) []), [.t 42], none⟩,
      ⟨(some 44), (.pure .max), [.t 43, .c (.int .i64 (Int.ofNat 0))], none⟩,
      ⟨(some 45), (.pure .mov), [.t 0], none⟩,
      ⟨(some 46), (.pure .nilchk), [.t 45], none⟩,
      ⟨(some 47), (.pure (.fadd 3)), [.t 46], none⟩,
      ⟨(some 48), (.pure (.fadd 1)), [.t 47], none⟩,
      ⟨(some 49), (.read (.load 1 false) []), [.t 48], none⟩,
      ⟨(some 50), (.pure .lenS), [.t 49], none⟩,
      ⟨(some 51), (.pure (.bin .rem)), [.t 44, .t 50], none⟩,
      ⟨(some 52), (.pure (.iaddS 3)), [.t 39, .t 51], none⟩,
      ⟨(some 53), (.read (.load 3 true) []), [.t 52], none⟩,
      ⟨(some 6), (.alloc (.alloc [(.int .i64 (Int.ofNat 0)), (.int .i64 (Int.ofNat 0)), (.bool false)])), [], none⟩,
      ⟨none, (.eff (.store 3)), [.t 6, .t 53], none⟩] false) c22_10)
    (.seq (.region [
      ⟨(some 75), (.pure (.bin .eql)), [.t 32, .c (.int .i64 (Int.ofNat 1))], none⟩,
      ⟨(some 74), (.pure .mov), [.t 75], none⟩] false) c22_15))
def c22_8 : C := (.block 0 (.seq (.region [
      ⟨(some 34), (.pure (.bin .eql)), [.t 32, .c (.int .i64 (Int.ofNat 3))], none⟩,
      ⟨(some 33), (.pure .mov), [.t 34], none⟩] false) c22_9))
def c22_6 : C := (.seq (.seq (.region [
      ⟨(some 29), (.pure .mov), [.t 5], none⟩,
      ⟨(some 30), (.pure .nilchk), [.t 29], none⟩,
      ⟨(some 31), (.pure (.fadd 0)), [.t 30], none⟩,
      ⟨(some 32), (.read (.load 1 false) []), [.t 31], none⟩] false) c22_8) c22_7)
def c22_2 : C := (.seq (.region [
      ⟨(some 23), (.pure .mov), [.t 0], none⟩,
      ⟨(some 24), (.pure .nilchk), [.t 23], none⟩,
      ⟨(some 25), (.pure (.fadd 2)), [.t 24], none⟩,
      ⟨(some 26), (.read (.load 1 false) []), [.t 25], none⟩,
      ⟨(some 27), (.pure .nilchk), [.t 26], none⟩,
      ⟨(some 28), (.pure (.fadd 0)), [.t 27], none⟩,
      ⟨(some 5), (.pure .mov), [.t 28], none⟩] false) c22_6)
def c22_5 : C := .ret
def c22_4 : C := (.keep [2] c22_5)
def c22_3 : C := (.cond (.t 19) (.seq (.region [
      ⟨(some 20), (.pure .mov), [.t 0], none⟩,
      ⟨(some 21), (.call 30), [.t 20, .c (.int .i64 (Int.ofNat 15)), .c (.int .i64 (Int.ofNat 200))], none⟩,
      ⟨(some 22), (.alloc (.bslice [(.int .i64 (Int.ofNat 0)), (.int .i64 (Int.ofNat 0)), (.int .i64 (Int.ofNat 0)), (.int .i64 (Int.ofNat 0)), (.int .i64 (Int.ofNat 0)), (.int .i64 (Int.ofNat 0)), (.int .i64 (Int.ofNat 0)), (.int .i64 (Int.ofNat 0)), (.int .i64 (Int.ofNat 0)), (.int .i64 (Int.ofNat 0)), (.bool false), (.int .i64 (Int.ofNat 0)), (.int .i64 (Int.ofNat 0)), (.int .i64 (Int.ofNat 0)), (.int .i64 (Int.ofNat 0)), (.int .i64 (Int.ofNat 0)), (.int .i64 (Int.ofNat 0)), (.int .i64 (Int.ofNat 0)), (.int .i64 (Int.ofNat 0)), (.int .i64 (Int.ofNat 0)), (.string ⟨⟨[]⟩⟩), (.int .i64 (Int.ofNat 0)), (.int .i64 (Int.ofNat 0)), (.int .i64 (Int.ofNat 0)), (.int .i64 (Int.ofNat 0)), (.slice none 0 0), (.slice none 0 0), (.int .i64 (Int.ofNat 0))] [(0, 28)] 28 1)), [.t 21], none⟩,
      ⟨(some 2), (.pure .mov), [.t 22], none⟩] false) c22_4)
    .skip)
def c22_1 : C := (.seq (.seq (.region [
      ⟨(some 18), (.pure .mov), [.t 4], none⟩,
      ⟨(some 19), (.pure (.un .not)), [.t 18], none⟩] false) c22_3) c22_2)
def c22_0 : C := (.seq (.region [
      ⟨(some 11), (.pure .mov), [.t 0], none⟩,
      ⟨(some 12), (.pure .nilchk), [.t 11], none⟩,
      ⟨(some 13), (.pure (.fadd 3)), [.t 12], none⟩,
      ⟨(some 14), (.read (.load 2 true) []), [.t 13], none⟩,
      ⟨(some 15), (.call 32), [.t 14], none⟩,
      ⟨(some 10), (.pure .mov), [.t 15], none⟩,
      ⟨(some 16), (.pure (.extract 0)), [.t 10], none⟩,
      ⟨(some 17), (.pure (.extract 1)), [.t 10], none⟩,
      ⟨(some 3), (.alloc (.alloc [(.int .i64 (Int.ofNat 0)), (.int .i64 (Int.ofNat 0))])), [], none⟩,
      ⟨none, (.eff (.store 2)), [.t 3, .t 16], none⟩,
      ⟨(some 4), (.pure .mov), [.t 17], none⟩] false) c22_1)
def k22 : DFn := ⟨130, (.seq (.region [
      ⟨(some 2), (.pure .mov), [.c (.slice none 0 0)], none⟩] false) c22_0), [.tmp 2]⟩
theorem c22 : (match Try.prog.funcs[22]? with | some fn => compileFn Try.prog 0 [none, none, none, none, none, some [2], none, none, none, none, none, none, none, none, some [2], none, none, none, none, some [2], none, none, none, some [2]] fn | none => none) = some k22 := by kernel_rfl
theorem e22 (tb : Nat → Option DFn) (nv : CallF) (a0 : Value) (H : Heap) (Q : Value → Heap → Prop) : wFn tb nv k22 [a0] H Q = (
    wP .nilchk [a0] fun x0 =>
    wP (.fadd 3) [x0] fun x1 =>
    wR (.load 2 true) [x1] H fun x2 =>
    Ev tb nv 32 [x2] H fun x3 H4 =>
    wP (.extract 0) [x3] fun x5 =>
    wP (.extract 1) [x3] fun x6 =>
    wA (.alloc [(.int .i64 0), (.int .i64 0)]) [] H4 fun x7 H8 =>
    wE (.store 2) [x7, x5] H8 fun x9 H10 =>
    wP (.un .not) [x6] fun x11 =>
    asB x11 fun b12 => onB b12 (Ev tb nv 30 [a0, (.int .i64 15), (.int .i64 200)] H10 fun x13 H14 =>
    wA (.bslice [(.int .i64 0), (.int .i64 0), (.int .i64 0), (.int .i64 0), (.int .i64 0), (.int .i64 0), (.int .i64 0), (.int .i64 0), (.int .i64 0), (.int .i64 0), (.bool false), (.int .i64 0), (.int .i64 0), (.int .i64 0), (.int .i64 0), (.int .i64 0), (.int .i64 0), (.int .i64 0), (.int .i64 0), (.int .i64 0), (.string ⟨⟨[]⟩⟩), (.int .i64 0), (.int .i64 0), (.int .i64 0), (.int .i64 0), (.slice none 0 0), (.slice none 0 0), (.int .i64 0)] [(0, 28)] 28 1) [x13] H14 fun x15 H16 =>
    atK (Q x15 H16))
    (wP .nilchk [a0] fun x17 =>
    wP (.fadd 2) [x17] fun x18 =>
    wR (.load 1 false) [x18] H10 fun x19 =>
    wP .nilchk [x19] fun x20 =>
    wP (.fadd 0) [x20] fun x21 =>
    wP .nilchk [x21] fun x22 =>
    wP (.fadd 0) [x22] fun x23 =>
    wR (.load 1 false) [x23] H10 fun x24 =>
    wP (.bin .eql) [x24, (.int .i64 3)] fun x25 =>
    asB x25 fun b26 => onB b26 (wP .nilchk [a0] fun x27 =>
    wP (.fadd 3) [x27] fun x28 =>
    wP (.fadd 1) [x28] fun x29 =>
    wR (.load 1 false) [x29] H10 fun x30 =>
    wP .nilchk [x21] fun x31 =>
    wP (.fadd 3) [x31] fun x32 =>
    wR (.load 1 false) [x32] H10 fun x33 =>
    wP .max [x33, (.int .i64 0)] fun x34 =>
    wP .nilchk [a0] fun x35 =>
    wP (.fadd 3) [x35] fun x36 =>
    wP (.fadd 1) [x36] fun x37 =>
    wR (.load 1 false) [x37] H10 fun x38 =>
    wP .lenS [x38] fun x39 =>
    wP (.bin .rem) [x34, x39] fun x40 =>
    wP (.iaddS 3) [x30, x40] fun x41 =>
    wR (.load 3 true) [x41] H10 fun x42 =>
    wA (.alloc [(.int .i64 0), (.int .i64 0), (.bool false)]) [] H10 fun x43 H44 =>
    wE (.store 3) [x43, x42] H44 fun x45 H46 =>
    wP (.fadd 0) [x43] fun x47 =>
    wP (.fadd 0) [x47] fun x48 =>
    wR (.load 1 false) [x48] H46 fun x49 =>
    Ev tb nv 30 [a0, (.int .i64 9), x49] H46 fun x50 H51 =>
    wA (.alloc [(.int .i64 0), (.int .i64 0), (.int .i64 0), (.int .i64 0), (.int .i64 0), (.int .i64 0), (.int .i64 0), (.int .i64 0), (.int .i64 0), (.int .i64 0), (.bool false), (.int .i64 0), (.int .i64 0), (.int .i64 0), (.int .i64 0), (.int .i64 0), (.int .i64 0), (.int .i64 0), (.int .i64 0), (.int .i64 0), (.string ⟨⟨[]⟩⟩), (.int .i64 0), (.int .i64 0), (.int .i64 0), (.int .i64 0), (.slice none 0 0), (.slice none 0 0), (.int .i64 0)]) [] H51 fun x52 H53 =>
    wE (.store 28) [x52, x50] H53 fun x54 H55 =>
    wP .nilchk [a0] fun x56 =>
    wP (.fadd 2) [x56] fun x57 =>
    wR (.load 1 false) [x57] H55 fun x58 =>
    wP .nilchk [x58] fun x59 =>
    wP (.fadd 5) [x59] fun x60 =>
    wR (.load 1 false) [x60] H55 fun x61 =>
    wP .nilchk [x21] fun x62 =>
    wP (.fadd 1) [x62] fun x63 =>
    wR (.load 1 false) [x63] H55 fun x64 =>
    wP (.fadd 6) [x52] fun x65 =>
    wE (.store 1) [x65, x61] H55 fun x66 H67 =>
    wP (.fadd 8) [x52] fun x68 =>
    wE (.store 1) [x68, x64] H67 fun x69 H70 =>
    wChk [H55, H55, H55, H55, H55, H55, H55, H55, H55, H55, H55, H55, H55, H67, H67, H70] [⟨(.load 1 false), [x63], x64, [13]⟩] (wR (.load 28 true) [x52] H70 fun x71 =>
    wA (.bslice [(.int .i64 0), (.int .i64 0), (.int .i64 0), (.int .i64 0), (.int .i64 0), (.int .i64 0), (.int .i64 0), (.int .i64 0), (.int .i64 0), (.int .i64 0), (.bool false), (.int .i64 0), (.int .i64 0), (.int .i64 0), (.int .i64 0), (.int .i64 0), (.int .i64 0), (.int .i64 0), (.int .i64 0), (.int .i64 0), (.string ⟨⟨[]⟩⟩), (.int .i64 0), (.int .i64 0), (.int .i64 0), (.int .i64 0), (.slice none 0 0), (.slice none 0 0), (.int .i64 0)] [(0, 28)] 28 1) [x71] H70 fun x72 H73 =>
    atK (Q x72 H73)))
    (wP (.bin .eql) [x24, (.int .i64 1)] fun x74 =>
    asB x74 fun b75 => onB b75 (wP (.fadd 0) [x7] fun x76 =>
    wR (.load 1 false) [x76] H10 fun x77 =>
    Ev tb nv 30 [a0, (.int .i64 7), x77] H10 fun x78 H79 =>
    wA (.alloc [(.int .i64 0), (.int .i64 0), (.int .i64 0), (.int .i64 0), (.int .i64 0), (.int .i64 0), (.int .i64 0), (.int .i64 0), (.int .i64 0), (.int .i64 0), (.bool false), (.int .i64 0), (.int .i64 0), (.int .i64 0), (.int .i64 0), (.int .i64 0), (.int .i64 0), (.int .i64 0), (.int .i64 0), (.int .i64 0), (.string ⟨⟨[]⟩⟩), (.int .i64 0), (.int .i64 0), (.int .i64 0), (.int .i64 0), (.slice none 0 0), (.slice none 0 0), (.int .i64 0)]) [] H79 fun x80 H81 =>
    wE (.store 28) [x80, x78] H81 fun x82 H83 =>
    wP .nilchk [a0] fun x84 =>
    wP (.fadd 0) [x84] fun x85 =>
    wR (.load 1 false) [x85] H83 fun x86 =>
    wP .nilchk [a0] fun x87 =>
    wP (.fadd 2) [x87] fun x88 =>
    wR (.load 1 false) [x88] H83 fun x89 =>
    wP .nilchk [x89] fun x90 =>
    wP (.fadd 5) [x90] fun x91 =>
    wR (.load 1 false) [x91] H83 fun x92 =>
    wP .nilchk [x21] fun x93 =>
    wP (.fadd 1) [x93] fun x94 =>
    wR (.load 1 false) [x94] H83 fun x95 =>
    wP .nilchk [x21] fun x96 =>
    wP (.fadd 2) [x96] fun x97 =>
    wR (.load 1 false) [x97] H83 fun x98 =>
    wP .nilchk [x21] fun x99 =>
    wP (.fadd 4) [x99] fun x100 =>
    wR (.load 1 false) [x100] H83 fun x101 =>
    wP (.build [(.int .i64 0), (.int .i64 0), (.int .i64 0), (.int .i64 0), (.int .i64 0), (.int .i64 0), (.int .i64 0), (.int .i64 0), (.int .i64 0), (.string ⟨⟨[]⟩⟩)] [(0, 1), (1, 1), (2, 1), (3, 1), (6, 1), (9, 1)]) [(.int .i64 1), x86, x92, x95, x98, x101] fun x102 =>
    wP (.fadd 11) [x80] fun x103 =>
    wE (.store 10) [x103, x102] H83 fun x104 H105 =>
    wR (.load 28 true) [x80] H105 fun x106 =>
    wA (.bslice [(.int .i64 0), (.int .i64 0), (.int .i64 0), (.int .i64 0), (.int .i64 0), (.int .i64 0), (.int .i64 0), (.int .i64 0), (.int .i64 0), (.int .i64 0), (.bool false), (.int .i64 0), (.int .i64 0), (.int .i64 0), (.int .i64 0), (.int .i64 0), (.int .i64 0), (.int .i64 0), (.int .i64 0), (.int .i64 0), (.string ⟨⟨[]⟩⟩), (.int .i64 0), (.int .i64 0), (.int .i64 0), (.int .i64 0), (.slice none 0 0), (.slice none 0 0), (.int .i64 0)] [(0, 28)] 28 1) [x106] H105 fun x107 H108 =>
    atK (Q x107 H108))
    (wP (.fadd 0) [x7] fun x109 =>
    wR (.load 1 false) [x109] H10 fun x110 =>
    Ev tb nv 30 [a0, (.int .i64 7), x110] H10 fun x111 H112 =>
    wA (.alloc [(.int .i64 0), (.int .i64 0), (.int .i64 0), (.int .i64 0), (.int .i64 0), (.int .i64 0), (.int .i64 0), (.int .i64 0), (.int .i64 0), (.int .i64 0), (.bool false), (.int .i64 0), (.int .i64 0), (.int .i64 0), (.int .i64 0), (.int .i64 0), (.int .i64 0), (.int .i64 0), (.int .i64 0), (.int .i64 0), (.string ⟨⟨[]⟩⟩), (.int .i64 0), (.int .i64 0), (.int .i64 0), (.int .i64 0), (.slice none 0 0), (.slice none 0 0), (.int .i64 0)]) [] H112 fun x113 H114 =>
    wE (.store 28) [x113, x111] H114 fun x115 H116 =>
    wP .nilchk [a0] fun x117 =>
    wP (.fadd 0) [x117] fun x118 =>
    wR (.load 1 false) [x118] H116 fun x119 =>
    wP .nilchk [a0] fun x120 =>
    wP (.fadd 2) [x120] fun x121 =>
    wR (.load 1 false) [x121] H116 fun x122 =>
    wP .nilchk [x122] fun x123 =>
    wP (.fadd 5) [x123] fun x124 =>
    wR (.load 1 false) [x124] H116 fun x125 =>
    wP .nilchk [x21] fun x126 =>
    wP (.fadd 1) [x126] fun x127 =>
    wR (.load 1 false) [x127] H116 fun x128 =>
    wP (.build [(.int .i64 0), (.int .i64 0), (.int .i64 0), (.int .i64 0), (.int .i64 0), (.int .i64 0), (.int .i64 0), (.int .i64 0), (.int .i64 0), (.string ⟨⟨[]⟩⟩)] [(0, 1), (1, 1), (2, 1), (3, 1)]) [(.int .i64 2), x119, x125, x128] fun x129 =>
    wP (.fadd 11) [x113] fun x130 =>
    wE (.store 10) [x130, x129] H116 fun x131 H132 =>
    wR (.load 28 true) [x113] H132 fun x133 =>
    wA (.bslice [(.int .i64 0), (.int .i64 0), (.int .i64 0), (.int .i64 0), (.int .i64 0), (.int .i64 0), (.int .i64 0), (.int .i64 0), (.int .i64 0), (.int .i64 0), (.bool false), (.int .i64 0), (.int .i64 0), (.int .i64 0), (.int .i64 0), (.int .i64 0), (.int .i64 0), (.int .i64 0), (.int .i64 0), (.int .i64 0), (.string ⟨⟨[]⟩⟩), (.int .i64 0), (.int .i64 0), (.int .i64 0), (.int .i64 0), (.slice none 0 0), (.slice none 0 0), (.int .i64 0)] [(0, 28)] 28 1) [x133] H132 fun x134 H135 =>
    atK (Q x134 H135))))) := by kernel_rfl

/-- tompion/config.Right -/
def c23_23 : C := .ret
def c23_22 : C := (.keep [2] c23_23)
def c23_21 : C := (.seq (.region [
      ⟨(some 2), (.pure .mov), [.c (.bool true)], none⟩] false) c23_22)
def c23_7 : C := (.keep [] c23_21)
def c23_20 : C := .skip
def c23_10 : C := (.keep [4, 35, 36, 37] c23_20)
def c23_14 : C := (.region [
      ⟨(some 56), (.pure (.bin .add)), [.t 37, .c (.int .i64 (Int.ofNat 1))], none⟩,
      ⟨(some 37), (.pure .mov), [.t 56], none⟩] false)
def c23_16 : C := (.region [
      ⟨(some 52), (.pure (.fadd 0)), [.t 6], none⟩,
      ⟨(some 53), (.pure (.fadd 0)), [.t 52], none⟩,
      ⟨(some 54), (.read (.load 1 false) []), [.t 53], none⟩,
      ⟨(some 55), (.pure (.iaddA 8 1)), [.t 4, .t 54], none⟩,
      ⟨none, (.eff (.store 1)), [.t 55, .c (.bool true)], none⟩] false)
def c23_19 : C := .ret
def c23_18 : C := (.keep [2] c23_19)
def c23_17 : C := (.cond (.t 51) (.seq (.region [
      ⟨(some 2), (.pure .mov), [.c (.bool false)], none⟩] false) c23_18)
    .skip)
def c23_15 : C := (.seq (.seq (.region [
      ⟨(some 41), (.pure (.fadd 0)), [.t 6], none⟩,
      ⟨(some 42), (.read (.load 2 true) []), [.t 41], none⟩,
      ⟨(some 43), (.call 33), [.t 42], none⟩,
      ⟨(some 44), (.pure (.un .not)), [.t 43], none⟩,
      ⟨(some 45), (.pure .mov), [.t 44], none⟩,
      ⟨(some 46), (.pure (.fadd 0)), [.t 6], (some (45, false))⟩,
      ⟨(some 47), (.pure (.fadd 0)), [.t 46], (some (45, false))⟩,
      ⟨(some 48), (.read (.load 1 false) []), [.t 47], (some (45, false))⟩,
      ⟨(some 49), (.pure (.iaddA 8 1)), [.t 4, .t 48], (some (45, false))⟩,
      ⟨(some 50), (.read (.load 1 false) []), [.t 49], (some (45, false))⟩,
      ⟨(some 51), (.pure .pick), [.t 45, .c (.bool true), .t 50], none⟩] false) c23_17) c23_16)
def c23_12 : C := (.seq (.block 1 (.seq (.region [
      ⟨(some 39), (.pure (.iaddS 3)), [.t 35, .t 37], none⟩,
      ⟨(some 40), (.read (.load 3 true) []), [.t 39], none⟩,
      ⟨(some 6), (.alloc (.alloc [(.int .i64 (Int.ofNat 0)), (.int .i64 (Int.ofNat 0)), (.bool false)])), [], none⟩,
      ⟨none, (.eff (.store 3)), [.t 6, .t 40], none⟩] false) c23_15)) c23_14)
def c23_13 : C := (.exit 0)
def c23_11 : C := (.seq (.cond (.t 38) .skip
    (.keep [] c23_13)) c23_12)
def c23_9 : C := (.seq (.seq (.region [
      ⟨(some 38), (.pure (.bin .lss)), [.t 37, .t 36], none⟩] false) c23_11) c23_10)
def c23_8 : C := (.block 0 (.loop (some [4, 35, 36, 37]) c23_9))
def c23_6 : C := (.seq (.seq (.region [
      ⟨(some 34), (.pure (.fadd 1)), [.t 1], none⟩,
      ⟨(some 35), (.read (.load 1 false) []), [.t 34], none⟩,
      ⟨(some 36), (.pure .lenS), [.t 35], none⟩,
      ⟨(some 37), (.pure .mov), [.c (.int .i64 (Int.ofNat 0))], none⟩] false) c23_8) c23_7)
def c23_2 : C := (.seq (.region [
      ⟨(some 4), (.alloc (.alloc [(.bool false), (.bool false), (.bool false), (.bool false), (.bool false), (.bool false), (.bool false), (.bool false)])), [], none⟩] false) c23_6)
def c23_5 : C := .ret
def c23_4 : C := (.keep [2] c23_5)
def c23_3 : C := (.cond (.t 33) (.seq (.region [
      ⟨(some 2), (.pure .mov), [.c (.bool false)], none⟩] false) c23_4)
    .skip)
def c23_1 : C := (.seq (.seq (.region [
      ⟨(some 10), (.pure (.fadd 0)), [.t 1], none⟩,
      ⟨(some 11), (.read (.load 1 false) []), [.t 10], none⟩,
      ⟨(some 12), (.pure (.bin .lss)), [.t 11, .c (.int .i64 (Int.ofNat 1))], none⟩,
      ⟨(some 13), (.pure .mov), [.t 12], none⟩,
      ⟨(some 14), (.pure (.fadd 0)), [.t 1], (some (13, false))⟩,
      ⟨(some 15), (.read (.load 1 false) []), [.t 14], (some (13, false))⟩,
      ⟨(some 16), (.pure (.bin .gtr)), [.t 15, .c (.int .i64 (Int.ofNat 1099511627776))], (some (13, false))⟩,
      ⟨(some 17), (.pure .pick), [.t 13, .c (.bool true), .t 16], none⟩,
      ⟨(some 18), (.pure .mov), [.t 17], none⟩,
      ⟨(some 19), (.pure .mov), [.t 3], (some (18, false))⟩,
      ⟨(some 20), (.pure (.bin .lss)), [.t 19, .c (.int .i64 (Int.ofNat 1))], (some (18, false))⟩,
      ⟨(some 21), (.pure .pick), [.t 18, .c (.bool true), .t 20], none⟩,
      ⟨(some 22), (.pure .mov), [.t 21], none⟩,
      ⟨(some 23), (.pure .mov), [.t 3], (some (22, false))⟩,
      ⟨(some 24), (.pure (.bin .gtr)), [.t 23, .c (.int .i64 (Int.ofNat 8))], (some (22, false))⟩,
      ⟨(some 25), (.pure .pick), [.t 22, .c (.bool true), .t 24], none⟩,
      ⟨(some 26), (.pure .mov), [.t 25], none⟩,
      ⟨(some 27), (.pure (.fadd 1)), [.t 1], (some (26, false))⟩,
      ⟨(some 28), (.read (.load 1 false) []), [.t 27], (some (26, false))⟩,
      ⟨(some 29), (.pure (.iaddS 3)), [.t 28, .c (.int .i64 (Int.ofNat 0))], (some (26, false))⟩,
      ⟨(some 30), (.pure (.fadd 2)), [.t 29], (some (26, false))⟩,
      ⟨(some 31), (.read (.load 1 false) []), [.t 30], (some (26, false))⟩,
      ⟨(some 32), (.pure (.un .not)), [.t 31], (some (26, false))⟩,
      ⟨(some 33), (.pure .pick), [.t 26, .c (.bool true), .t 32], none⟩] false) c23_3) c23_2)
def c23_0 : C := (.seq (.region [
      ⟨(some 7), (.pure (.fadd 1)), [.t 1], none⟩,
      ⟨(some 8), (.read (.load 1 false) []), [.t 7], none⟩,
      ⟨(some 9), (.pure .lenS), [.t 8], none⟩,
      ⟨(some 3), (.pure .mov), [.t 9], none⟩] false) c23_1)
def k23 : DFn := ⟨57, (.seq (.region [
      ⟨(some 1), (.alloc .box), [.t 0], none⟩,
      ⟨(some 2), (.pure .mov), [.c (.bool false)], none⟩] false) c23_0), [.tmp 2]⟩
theorem c23 : (match Try.prog.funcs[23]? with | some fn => compileFn Try.prog 0 [none, none, none, none, none, some [2], none, some [], none, some [4, 35, 36, 37], none, none, some [], none, none, none, none, none, some [2], none, some [2]] fn | none => none) = some k23 := by kernel_rfl
def q23_0 (tb : Nat → Option DFn) (nv : CallF) (Q : Value → Heap → Prop) : Kont := kSeq (fun wf H => wC tb nv c23_7 wf H (kFn [.tmp 2] Q)) (kFn [.tmp 2] Q)
def q23_1 (tb : Nat → Option DFn) (nv : CallF) (Q : Value → Heap → Prop) : Kont := kBlk 0 (q23_0 tb nv Q)
def w23_21 (tb : Nat → Option DFn) (nv : CallF) (H : Heap) (Q : Value → Heap → Prop) : Prop := wC tb nv c23_21 (mkW []) H (kFn [.tmp 2] Q)
theorem e23 (tb : Nat → Option DFn) (nv : CallF) (a0 : Value) (H : Heap) (Q : Value → Heap → Prop) : wFn tb nv k23 [a0] H Q = (
    wA .box [a0] H fun x0 H1 =>
    wP (.fadd 1) [x0] fun x2 =>
    wR (.load 1 false) [x2] H1 fun x3 =>
    wP .lenS [x3] fun x4 =>
    wP (.fadd 0) [x0] fun x5 =>
    wR (.load 1 false) [x5] H1 fun x6 =>
    wP (.bin .lss) [x6, (.int .i64 1)] fun x7 =>
    asB x7 fun b8 => onB b8 (atK (Q (.bool false) H1))
    (wP (.fadd 0) [x0] fun x9 =>
    wR (.load 1 false) [x9] H1 fun x10 =>
    wP (.bin .gtr) [x10, (.int .i64 1099511627776)] fun x11 =>
    asB x11 fun b12 => onB b12 (atK (Q (.bool false) H1))
    (wP (.bin .lss) [x4, (.int .i64 1)] fun x13 =>
    asB x13 fun b14 => onB b14 (atK (Q (.bool false) H1))
    (wP (.bin .gtr) [x4, (.int .i64 8)] fun x15 =>
    asB x15 fun b16 => onB b16 (atK (Q (.bool false) H1))
    (wP (.fadd 1) [x0] fun x17 =>
    wR (.load 1 false) [x17] H1 fun x18 =>
    wP (.iaddS 3) [x18, (.int .i64 0)] fun x19 =>
    wP (.fadd 2) [x19] fun x20 =>
    wR (.load 1 false) [x20] H1 fun x21 =>
    wP (.un .not) [x21] fun x22 =>
    asB x22 fun b23 => onB b23 (atK (Q (.bool false) H1))
    (wA (.alloc [(.bool false), (.bool false), (.bool false), (.bool false), (.bool false), (.bool false), (.bool false), (.bool false)]) [] H1 fun x24 H25 =>
    wP (.fadd 1) [x0] fun x26 =>
    wR (.load 1 false) [x26] H25 fun x27 =>
    wP .lenS [x27] fun x28 =>
    wLoop tb nv c23_9 [4, 35, 36, 37] (mkW [(4, x24), (35, x27), (36, x28), (37, (.int .i64 0))]) H25 (q23_1 tb nv Q))))))) := by kernel_rfl
theorem l23_9 (tb : Nat → Option DFn) (nv : CallF) (t4 t35 t36 t37 : Value) (H : Heap) (K : Kont) : wC tb nv c23_9 (mkW [(4, t4), (35, t35), (36, t36), (37, t37)]) H K = (
    wP (.bin .lss) [t37, t36] fun x29 =>
    asB x29 fun b30 => onB b30 (wP (.iaddS 3) [t35, t37] fun x31 =>
    wR (.load 3 true) [x31] H fun x32 =>
    wA (.alloc [(.int .i64 0), (.int .i64 0), (.bool false)]) [] H fun x33 H34 =>
    wE (.store 3) [x33, x32] H34 fun x35 H36 =>
    wP (.fadd 0) [x33] fun x37 =>
    wR (.load 2 true) [x37] H36 fun x38 =>
    Ev tb nv 33 [x38] H36 fun x39 H40 =>
    wP (.un .not) [x39] fun x41 =>
    asB x41 fun b42 => onB b42 (atK (K .ret (mkW [(2, (.bool false))]) H40))
    (wP (.fadd 0) [x33] fun x43 =>
    wP (.fadd 0) [x43] fun x44 =>
    wR (.load 1 false) [x44] H40 fun x45 =>
    wP (.iaddA 8 1) [t4, x45] fun x46 =>
    wR (.load 1 false) [x46] H40 fun x47 =>
    asB x47 fun b48 => onB b48 (atK (K .ret (mkW [(2, (.bool false))]) H40))
    (wP (.fadd 0) [x33] fun x49 =>
    wP (.fadd 0) [x49] fun x50 =>
    wR (.load 1 false) [x50] H40 fun x51 =>
    wP (.iaddA 8 1) [t4, x51] fun x52 =>
    wE (.store 1) [x52, (.bool true)] H40 fun x53 H54 =>
    wP (.bin .add) [t37, (.int .i64 1)] fun x55 =>
    atK (K .normal (mkW [(4, t4), (35, t35), (36, t36), (37, x55)]) H54))))
    (atK (K (.exit 0) (mkW []) H))) := by kernel_rfl
theorem x23_9_0 (tb : Nat → Option DFn) (nv : CallF) (t2 : Value) (H : Heap) (Q : Value → Heap → Prop) : (q23_1 tb nv Q) .ret (mkW [(2, t2)]) H = (
    Q t2 H) := by kernel_rfl
theorem x23_9_1 (tb : Nat → Option DFn) (nv : CallF) (H : Heap) (Q : Value → Heap → Prop) : (q23_1 tb nv Q) (.exit 0) (mkW []) H = (
    atK (w23_21 tb nv  H Q)) := by kernel_rfl
theorem e23_21 (tb : Nat → Option DFn) (nv : CallF) (H : Heap) (Q : Value → Heap → Prop) : w23_21 tb nv  H Q = (
    atK (Q (.bool true) H)) := by kernel_rfl

/-- slices.Clone[[]tompion/api.Seat,tompion/api.Seat] -/
def c24_6 : C := .ret
def c24_5 : C := (.keep [2] c24_6)
def c24_1 : C := (.seq (.region [
      ⟨(some 5), (.alloc (.bslice [] [] 3 0)), [], none⟩,
      ⟨(some 6), (.pure .mov), [.t 0], none⟩,
      ⟨(some 7), (.eff (.app 3 24)), [.t 5, .t 6], none⟩,
      ⟨(some 2), (.pure .mov), [.t 7], none⟩] false) c24_5)
def c24_4 : C := .ret
def c24_3 : C := (.keep [2] c24_4)
def c24_2 : C := (.cond (.t 4) (.seq (.region [
      ⟨(some 2), (.pure .mov), [.c (.slice none 0 0)], none⟩] false) c24_3)
    .skip)
def c24_0 : C := (.seq (.seq (.region [
      ⟨(some 3), (.pure .mov), [.t 0], none⟩,
      ⟨(some 4), (.pure (.nilEq false .slice)), [.t 3], none⟩] false) c24_2) c24_1)
def k24 : DFn := ⟨8, (.seq (.region [
      ⟨(some 2), (.pure .mov), [.c (.slice none 0 0)], none⟩] false) c24_0), [.tmp 2]⟩
theorem c24 : (match Try.prog.funcs[24]? with | some fn => compileFn Try.prog 0 [none, none, none, none, some [2], none, some [2]] fn | none => none) = some k24 := by kernel_rfl
theorem e24 (tb : Nat → Option DFn) (nv : CallF) (a0 : Value) (H : Heap) (Q : Value → Heap → Prop) : wFn tb nv k24 [a0] H Q = (
    wP (.nilEq false .slice) [a0] fun x0 =>
    asB x0 fun b1 => onB b1 (atK (Q (.slice none 0 0) H))
    (wA (.bslice [] [] 3 0) [] H fun x2 H3 =>
    wE (.app 3 24) [x2, a0] H3 fun x4 H5 =>
    atK (Q x4 H5))) := by kernel_rfl

/-- (*tompion/client.Client).answers -/
def c25_6 : C := .ret
def c25_5 : C := (.keep [4] c25_6)
def c25_1 : C := (.seq (.region [
      ⟨(some 24), (.pure .mov), [.t 1], none⟩,
      ⟨(some 25), (.pure .nilchk), [.t 24], none⟩,
      ⟨(some 26), (.pure (.fadd 0)), [.t 25], none⟩,
      ⟨(some 27), (.read (.load 1 false) []), [.t 26], none⟩,
      ⟨(some 28), (.pure (.bin .eql)), [.t 27, .c (.int .i64 (Int.ofNat 10))], none⟩,
      ⟨(some 29), (.pure .mov), [.t 0], none⟩,
      ⟨(some 30), (.pure .nilchk), [.t 29], none⟩,
      ⟨(some 31), (.pure (.fadd 2)), [.t 30], none⟩,
      ⟨(some 32), (.read (.load 1 false) []), [.t 31], none⟩,
      ⟨(some 33), (.pure .nilchk), [.t 32], none⟩,
      ⟨(some 34), (.pure (.fadd 0)), [.t 33], none⟩,
      ⟨(some 35), (.pure (.fadd 0)), [.t 34], none⟩,
      ⟨(some 36), (.read (.load 1 false) []), [.t 35], none⟩,
      ⟨(some 37), (.pure (.bin .eql)), [.t 36, .c (.int .i64 (Int.ofNat 3))], none⟩,
      ⟨(some 38), (.pure (.boolEq false)), [.t 28, .t 37], none⟩,
      ⟨(some 4), (.pure .mov), [.t 38], none⟩] false) c25_5)
def c25_4 : C := .ret
def c25_3 : C := (.keep [4] c25_4)
def c25_2 : C := (.cond (.t 23) (.seq (.region [
      ⟨(some 4), (.pure .mov), [.c (.bool false)], none⟩] false) c25_3)
    .skip)
def c25_0 : C := (.seq (.seq (.region [
      ⟨(some 5), (.pure .mov), [.t 0], none⟩,
      ⟨(some 6), (.pure .nilchk), [.t 5], none⟩,
      ⟨(some 7), (.pure (.fadd 2)), [.t 6], none⟩,
      ⟨(some 8), (.read (.load 1 false) []), [.t 7], none⟩,
      ⟨(some 9), (.pure (.nilEq false .ptr)), [.t 8], none⟩,
      ⟨(some 10), (.pure .mov), [.t 9], none⟩,
      ⟨(some 11), (.pure .mov), [.t 0], (some (10, false))⟩,
      ⟨(some 12), (.pure .nilchk), [.t 11], (some (10, false))⟩,
      ⟨(some 13), (.pure (.fadd 2)), [.t 12], (some (10, false))⟩,
      ⟨(some 14), (.read (.load 1 false) []), [.t 13], (some (10, false))⟩,
      ⟨(some 15), (.pure .nilchk), [.t 14], (some (10, false))⟩,
      ⟨(some 16), (.pure (.fadd 5)), [.t 15], (some (10, false))⟩,
      ⟨(some 17), (.read (.load 1 false) []), [.t 16], (some (10, false))⟩,
      ⟨(some 18), (.pure .mov), [.t 1], (some (10, false))⟩,
      ⟨(some 19), (.pure .nilchk), [.t 18], (some (10, false))⟩,
      ⟨(some 20), (.pure (.fadd 6)), [.t 19], (some (10, false))⟩,
      ⟨(some 21), (.read (.load 1 false) []), [.t 20], (some (10, false))⟩,
      ⟨(some 22), (.pure (.bin .neq)), [.t 17, .t 21], (some (10, false))⟩,
      ⟨(some 23), (.pure .pick), [.t 10, .c (.bool true), .t 22], none⟩] false) c25_2) c25_1)
def k25 : DFn := ⟨39, (.seq (.region [
      ⟨(some 4), (.pure .mov), [.c (.bool false)], none⟩] false) c25_0), [.tmp 4]⟩
theorem c25 : (match Try.prog.funcs[25]? with | some fn => compileFn Try.prog 0 [none, none, none, none, some [4], none, some [4]] fn | none => none) = some k25 := by kernel_rfl
theorem e25 (tb : Nat → Option DFn) (nv : CallF) (a0 a1 : Value) (H : Heap) (Q : Value → Heap → Prop) : wFn tb nv k25 [a0, a1] H Q = (
    wP .nilchk [a0] fun x0 =>
    wP (.fadd 2) [x0] fun x1 =>
    wR (.load 1 false) [x1] H fun x2 =>
    wP (.nilEq false .ptr) [x2] fun x3 =>
    asB x3 fun b4 => onB b4 (atK (Q (.bool false) H))
    (wP .nilchk [a0] fun x5 =>
    wP (.fadd 2) [x5] fun x6 =>
    wR (.load 1 false) [x6] H fun x7 =>
    wP .nilchk [x7] fun x8 =>
    wP (.fadd 5) [x8] fun x9 =>
    wR (.load 1 false) [x9] H fun x10 =>
    wP .nilchk [a1] fun x11 =>
    wP (.fadd 6) [x11] fun x12 =>
    wR (.load 1 false) [x12] H fun x13 =>
    wP (.bin .neq) [x10, x13] fun x14 =>
    asB x14 fun b15 => onB b15 (atK (Q (.bool false) H))
    (wP .nilchk [a1] fun x16 =>
    wP (.fadd 0) [x16] fun x17 =>
    wR (.load 1 false) [x17] H fun x18 =>
    wP (.bin .eql) [x18, (.int .i64 10)] fun x19 =>
    wP .nilchk [a0] fun x20 =>
    wP (.fadd 2) [x20] fun x21 =>
    wR (.load 1 false) [x21] H fun x22 =>
    wP .nilchk [x22] fun x23 =>
    wP (.fadd 0) [x23] fun x24 =>
    wP (.fadd 0) [x24] fun x25 =>
    wR (.load 1 false) [x25] H fun x26 =>
    wP (.bin .eql) [x26, (.int .i64 3)] fun x27 =>
    wP (.boolEq false) [x19, x27] fun x28 =>
    atK (Q x28 H)))) := by kernel_rfl

end Go.Proofs.Ytfflfehfjgkcdaa.D
