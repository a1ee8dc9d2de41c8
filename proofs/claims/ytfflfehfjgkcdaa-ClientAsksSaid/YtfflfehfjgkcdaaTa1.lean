/- The compiled functions of the seat, as the machine "D" runs them, and what each comes to (written by a program). No statement of the seat is proved in this text. -/
import Derived.Test.YtfflfehfjgkcdaaDz
import Derived.Test.YtfflfehfjgkcdaaProg
set_option maxRecDepth 100000
set_option linter.unusedVariables false
namespace Go.Proofs.Ytfflfehfjgkcdaa.D
open Go
/-- (*tompion/client.Client).Call -/
def c10_17 : C := .ret
def c10_16 : C := (.keep [6, 7] c10_17)
def c10_15 : C := (.seq (.region [
      ⟨(some 49), (.pure .mov), [.t 0], none⟩,
      ⟨(some 50), (.call 22), [.t 49], none⟩,
      ⟨(some 6), (.pure .mov), [.t 50], none⟩,
      ⟨(some 7), (.pure .mov), [.c (.int .i64 (Int.ofNat 0))], none⟩] false) c10_16)
def c10_14 : C := (.seq (.region [
      ⟨(some 38), (.pure .mov), [.t 0], none⟩,
      ⟨(some 39), (.read (.load 5 true) []), [.t 4], none⟩,
      ⟨(some 40), (.pure .mov), [.t 0], none⟩,
      ⟨(some 41), (.pure .nilchk), [.t 40], none⟩,
      ⟨(some 42), (.pure (.fadd 1)), [.t 41], none⟩,
      ⟨(some 43), (.read (.load 1 false) []), [.t 42], none⟩,
      ⟨(some 44), (.pure .mov), [.t 2], none⟩,
      ⟨(some 45), (.pure (.build [(.int .i64 (Int.ofNat 0)), (.int .i64 (Int.ofNat 0)), (.int .i64 (Int.ofNat 0)), (.int .i64 (Int.ofNat 0)), (.string ⟨⟨[]⟩⟩), (.int .i64 (Int.ofNat 0)), (.int .i64 (Int.ofNat 0))] [(0, 5), (5, 1), (6, 1)])), [.t 39, .t 43, .t 44], none⟩,
      ⟨(some 46), (.alloc .box), [.t 45], none⟩,
      ⟨(some 47), (.pure .nilchk), [.t 38], none⟩,
      ⟨(some 48), (.pure (.fadd 2)), [.t 47], none⟩,
      ⟨none, (.eff (.store 1)), [.t 48, .t 46], none⟩] false) c10_15)
def c10_1 : C := (.seq (.region [
      ⟨(some 31), (.pure .mov), [.t 0], none⟩,
      ⟨(some 32), (.pure .nilchk), [.t 31], none⟩,
      ⟨(some 33), (.pure (.fadd 1)), [.t 32], none⟩,
      ⟨(some 34), (.read (.load 1 false) []), [.t 33], none⟩,
      ⟨(some 35), (.pure (.bin .add)), [.t 34, .c (.int .i64 (Int.ofNat 1))], none⟩,
      ⟨(some 36), (.pure .nilchk), [.t 31], none⟩,
      ⟨(some 37), (.pure (.fadd 1)), [.t 36], none⟩,
      ⟨none, (.eff (.store 1)), [.t 37, .t 35], none⟩] false) c10_14)
def c10_4 : C := .ret
def c10_3 : C := (.keep [6, 7] c10_4)
def c10_7 : C := .ret
def c10_6 : C := (.keep [6, 7] c10_7)
def c10_10 : C := .ret
def c10_9 : C := (.keep [6, 7] c10_10)
def c10_13 : C := .ret
def c10_12 : C := (.keep [6, 7] c10_13)
def c10_11 : C := (.cond (.t 26) (.seq (.region [
      ⟨(some 6), (.pure .mov), [.c (.slice none 0 0)], none⟩,
      ⟨(some 7), (.pure .mov), [.c (.int .i64 (Int.ofNat 7))], none⟩] false) c10_12)
    .skip)
def c10_8 : C := (.cond (.t 17) (.seq (.region [
      ⟨(some 6), (.pure .mov), [.c (.slice none 0 0)], none⟩,
      ⟨(some 7), (.pure .mov), [.c (.int .i64 (Int.ofNat 1))], none⟩] false) c10_9)
    (.seq (.region [
      ⟨(some 27), (.pure (.fadd 4)), [.t 4], none⟩,
      ⟨(some 28), (.read (.load 1 false) []), [.t 27], none⟩,
      ⟨(some 29), (.pure .lenStr), [.t 28], none⟩,
      ⟨(some 30), (.pure (.bin .gtr)), [.t 29, .c (.int .i64 (Int.ofNat 256))], none⟩,
      ⟨(some 26), (.pure .mov), [.t 30], none⟩] false) c10_11))
def c10_5 : C := (.cond (.t 11) (.seq (.region [
      ⟨(some 6), (.pure .mov), [.c (.slice none 0 0)], none⟩,
      ⟨(some 7), (.pure .mov), [.c (.int .i64 (Int.ofNat 13))], none⟩] false) c10_6)
    (.seq (.region [
      ⟨(some 18), (.pure (.fadd 0)), [.t 4], none⟩,
      ⟨(some 19), (.read (.load 1 false) []), [.t 18], none⟩,
      ⟨(some 20), (.pure (.bin .lss)), [.t 19, .c (.int .i64 (Int.ofNat 1))], none⟩,
      ⟨(some 21), (.pure .mov), [.t 20], none⟩,
      ⟨(some 22), (.pure (.fadd 0)), [.t 4], (some (21, false))⟩,
      ⟨(some 23), (.read (.load 1 false) []), [.t 22], (some (21, false))⟩,
      ⟨(some 24), (.pure (.bin .gtr)), [.t 23, .c (.int .i64 (Int.ofNat 3))], (some (21, false))⟩,
      ⟨(some 25), (.pure .pick), [.t 21, .c (.bool true), .t 24], none⟩,
      ⟨(some 17), (.pure .mov), [.t 25], none⟩] false) c10_8))
def c10_2 : C := (.cond (.t 8) (.seq (.region [
      ⟨(some 6), (.pure .mov), [.c (.slice none 0 0)], none⟩,
      ⟨(some 7), (.pure .mov), [.c (.int .i64 (Int.ofNat 12))], none⟩] false) c10_3)
    (.seq (.region [
      ⟨(some 12), (.pure .mov), [.t 0], none⟩,
      ⟨(some 13), (.pure .nilchk), [.t 12], none⟩,
      ⟨(some 14), (.pure (.fadd 2)), [.t 13], none⟩,
      ⟨(some 15), (.read (.load 1 false) []), [.t 14], none⟩,
      ⟨(some 16), (.pure (.nilEq true .ptr)), [.t 15], none⟩,
      ⟨(some 11), (.pure .mov), [.t 16], none⟩] false) c10_5))
def c10_0 : C := (.seq (.block 0 (.seq (.region [
      ⟨(some 9), (.pure .mov), [.t 0], none⟩,
      ⟨(some 10), (.pure (.nilEq false .ptr)), [.t 9], none⟩,
      ⟨(some 8), (.pure .mov), [.t 10], none⟩] false) c10_2)) c10_1)
def k10 : DFn := ⟨51, (.seq (.region [
      ⟨(some 4), (.alloc .box), [.t 1], none⟩,
      ⟨(some 6), (.pure .mov), [.c (.slice none 0 0)], none⟩,
      ⟨(some 7), (.pure .mov), [.c (.int .i64 (Int.ofNat 0))], none⟩] false) c10_0), [.tmp 6, .tmp 7]⟩
theorem c10 : (match Try.prog.funcs[10]? with | some fn => compileFn Try.prog 0 [none, none, none, none, some [6, 7], none, none, some [6, 7], none, none, some [6, 7], none, none, some [6, 7], none, none, none, some [6, 7]] fn | none => none) = some k10 := by kernel_rfl
theorem e10 (tb : Nat → Option DFn) (nv : CallF) (a0 a1 a2 : Value) (H : Heap) (Q : Value → Heap → Prop) : wFn tb nv k10 [a0, a1, a2] H Q = (
    wA .box [a1] H fun x0 H1 =>
    wP (.nilEq false .ptr) [a0] fun x2 =>
    asB x2 fun b3 => onB b3 (atK (Q (.tuple ⟨[(.slice none 0 0), (.int .i64 12)]⟩) H1))
    (wP .nilchk [a0] fun x4 =>
    wP (.fadd 2) [x4] fun x5 =>
    wR (.load 1 false) [x5] H1 fun x6 =>
    wP (.nilEq true .ptr) [x6] fun x7 =>
    asB x7 fun b8 => onB b8 (atK (Q (.tuple ⟨[(.slice none 0 0), (.int .i64 13)]⟩) H1))
    (wP (.fadd 0) [x0] fun x9 =>
    wR (.load 1 false) [x9] H1 fun x10 =>
    wP (.bin .lss) [x10, (.int .i64 1)] fun x11 =>
    asB x11 fun b12 => onB b12 (atK (Q (.tuple ⟨[(.slice none 0 0), (.int .i64 1)]⟩) H1))
    (wP (.fadd 0) [x0] fun x13 =>
    wR (.load 1 false) [x13] H1 fun x14 =>
    wP (.bin .gtr) [x14, (.int .i64 3)] fun x15 =>
    asB x15 fun b16 => onB b16 (atK (Q (.tuple ⟨[(.slice none 0 0), (.int .i64 1)]⟩) H1))
    (wP (.fadd 4) [x0] fun x17 =>
    wR (.load 1 false) [x17] H1 fun x18 =>
    wP .lenStr [x18] fun x19 =>
    wP (.bin .gtr) [x19, (.int .i64 256)] fun x20 =>
    asB x20 fun b21 => onB b21 (atK (Q (.tuple ⟨[(.slice none 0 0), (.int .i64 7)]⟩) H1))
    (wP .nilchk [a0] fun x22 =>
    wP (.fadd 1) [x22] fun x23 =>
    wR (.load 1 false) [x23] H1 fun x24 =>
    wP (.bin .add) [x24, (.int .i64 1)] fun x25 =>
    wP .nilchk [a0] fun x26 =>
    wP (.fadd 1) [x26] fun x27 =>
    wE (.store 1) [x27, x25] H1 fun x28 H29 =>
    wR (.load 5 true) [x0] H29 fun x30 =>
    wP .nilchk [a0] fun x31 =>
    wP (.fadd 1) [x31] fun x32 =>
    wR (.load 1 false) [x32] H29 fun x33 =>
    wP (.build [(.int .i64 0), (.int .i64 0), (.int .i64 0), (.int .i64 0), (.string ⟨⟨[]⟩⟩), (.int .i64 0), (.int .i64 0)] [(0, 5), (5, 1), (6, 1)]) [x30, x33, a2] fun x34 =>
    wA .box [x34] H29 fun x35 H36 =>
    wP .nilchk [a0] fun x37 =>
    wP (.fadd 2) [x37] fun x38 =>
    wE (.store 1) [x38, x35] H36 fun x39 H40 =>
    Ev tb nv 22 [a0] H40 fun x41 H42 =>
    atK (Q (.tuple ⟨[x41, (.int .i64 0)]⟩) H42))))))) := by kernel_rfl

/-- (*tompion/client.Client).Take -/
def c11_23 : C := .ret
def c11_22 : C := (.keep [6] c11_23)
def c11_21 : C := (.seq (.region [
      ⟨(some 6), (.pure .mov), [.c (.slice none 0 0)], none⟩] false) c11_22)
def c11_5 : C := (.keep [] c11_21)
def c11_15 : C := .ret
def c11_14 : C := (.keep [6] c11_15)
def c11_13 : C := (.cond (.t 43) (.seq (.region [
      ⟨(some 44), (.pure .mov), [.t 0], none⟩,
      ⟨(some 45), (.call 22), [.t 44], none⟩,
      ⟨(some 6), (.pure .mov), [.t 45], none⟩] false) c11_14)
    .skip)
def c11_12 : C := (.seq (.region [
      ⟨(some 39), (.pure .mov), [.t 0], none⟩,
      ⟨(some 40), (.pure .nilchk), [.t 39], none⟩,
      ⟨(some 41), (.pure (.fadd 2)), [.t 40], none⟩,
      ⟨(some 42), (.read (.load 1 false) []), [.t 41], none⟩,
      ⟨(some 43), (.pure (.nilEq true .ptr)), [.t 42], none⟩] false) c11_13)
def c11_8 : C := (.seq (.region [
      ⟨(some 28), (.pure .mov), [.t 0], none⟩,
      ⟨(some 29), (.pure (.fadd 24)), [.t 4], none⟩,
      ⟨(some 30), (.pure (.fadd 0)), [.t 29], none⟩,
      ⟨(some 31), (.read (.load 1 false) [8]), [.t 30], none⟩,
      ⟨(some 32), (.pure (.fadd 24)), [.t 4], none⟩,
      ⟨(some 33), (.pure (.fadd 1)), [.t 32], none⟩,
      ⟨(some 34), (.read (.load 1 false) []), [.t 33], none⟩,
      ⟨(some 35), (.call 24), [.t 34], none⟩,
      ⟨(some 36), (.pure (.build [(.int .i64 (Int.ofNat 0)), (.slice none 0 0)] [(0, 1), (1, 1)])), [.t 31, .t 35], none⟩,
      ⟨(some 37), (.pure .nilchk), [.t 28], none⟩,
      ⟨(some 38), (.pure (.fadd 3)), [.t 37], none⟩,
      ⟨none, (.eff (.store 2)), [.t 38, .t 36], none⟩] true) c11_12)
def c11_11 : C := .ret
def c11_10 : C := (.keep [6] c11_11)
def c11_9 : C := (.cond (.t 27) (.seq (.region [
      ⟨(some 6), (.pure .mov), [.c (.slice none 0 0)], none⟩] false) c11_10)
    .skip)
def c11_19 : C := (.cond (.t 50) (.region [
      ⟨(some 51), (.pure .mov), [.t 0], none⟩,
      ⟨(some 52), (.pure (.fadd 21)), [.t 4], none⟩,
      ⟨(some 53), (.read (.load 3 true) []), [.t 52], none⟩,
      ⟨(some 54), (.pure (.fadd 5)), [.t 4], none⟩,
      ⟨(some 55), (.read (.load 1 false) []), [.t 54], none⟩,
      ⟨(some 56), (.call 26), [.t 51, .t 53, .t 55], none⟩] false)
    .skip)
def c11_20 : C := (.cond (.t 57) (.region [
      ⟨(some 59), (.pure .mov), [.t 0], none⟩,
      ⟨(some 60), (.call 27), [.t 59, .t 4], none⟩] false)
    .skip)
def c11_18 : C := (.cond (.t 46) (.seq (.region [
      ⟨(some 49), (.pure .mov), [.t 0], none⟩,
      ⟨(some 50), (.call 25), [.t 49, .t 4], none⟩] false) c11_19)
    (.seq (.region [
      ⟨(some 58), (.pure (.bin .eql)), [.t 10, .c (.int .i64 (Int.ofNat 14))], none⟩,
      ⟨(some 57), (.pure .mov), [.t 58], none⟩] false) c11_20))
def c11_16 : C := (.keep [0, 4, 10, 46] c11_18)
def c11_17 : C := (.cond (.t 46) .skip
    (.region [
      ⟨(some 48), (.pure (.bin .eql)), [.t 10, .c (.int .i64 (Int.ofNat 10))], none⟩,
      ⟨(some 46), (.pure .mov), [.t 48], none⟩] false))
def c11_7 : C := (.cond (.t 11) (.seq (.seq (.region [
      ⟨(some 13), (.pure (.fadd 24)), [.t 4], none⟩,
      ⟨(some 14), (.read (.load 2 true) []), [.t 13], none⟩,
      ⟨(some 15), (.call 23), [.t 14], none⟩,
      ⟨(some 16), (.pure (.un .not)), [.t 15], none⟩,
      ⟨(some 17), (.pure .mov), [.t 16], none⟩,
      ⟨(some 18), (.pure (.fadd 24)), [.t 4], (some (17, false))⟩,
      ⟨(some 19), (.pure (.fadd 0)), [.t 18], (some (17, false))⟩,
      ⟨(some 20), (.read (.load 1 false) []), [.t 19], (some (17, false))⟩,
      ⟨(some 21), (.pure .mov), [.t 0], (some (17, false))⟩,
      ⟨(some 22), (.pure .nilchk), [.t 21], (some (17, false))⟩,
      ⟨(some 23), (.pure (.fadd 3)), [.t 22], (some (17, false))⟩,
      ⟨(some 24), (.pure (.fadd 0)), [.t 23], (some (17, false))⟩,
      ⟨(some 25), (.read (.load 1 false) []), [.t 24], (some (17, false))⟩,
      ⟨(some 26), (.pure (.bin .leq)), [.t 20, .t 25], (some (17, false))⟩,
      ⟨(some 27), (.pure .pick), [.t 17, .c (.bool true), .t 26], none⟩] false) c11_9) c11_8)
    (.seq (.seq (.region [
      ⟨(some 47), (.pure (.bin .eql)), [.t 10, .c (.int .i64 (Int.ofNat 8))], none⟩,
      ⟨(some 46), (.pure .mov), [.t 47], none⟩] false) c11_17) c11_16))
def c11_6 : C := (.block 0 (.seq (.region [
      ⟨(some 12), (.pure (.bin .eql)), [.t 10, .c (.int .i64 (Int.ofNat 2))], none⟩,
      ⟨(some 11), (.pure .mov), [.t 12], none⟩] false) c11_7))
def c11_1 : C := (.seq (.seq (.region [
      ⟨(some 9), (.pure (.fadd 0)), [.t 4], none⟩,
      ⟨(some 10), (.read (.load 1 false) []), [.t 9], none⟩] false) c11_6) c11_5)
def c11_4 : C := .ret
def c11_3 : C := (.keep [6] c11_4)
def c11_2 : C := (.cond (.t 8) (.seq (.region [
      ⟨(some 6), (.pure .mov), [.c (.slice none 0 0)], none⟩] false) c11_3)
    .skip)
def c11_0 : C := (.seq (.seq (.region [
      ⟨(some 7), (.pure .mov), [.t 0], none⟩,
      ⟨(some 8), (.pure (.nilEq false .ptr)), [.t 7], none⟩] false) c11_2) c11_1)
def k11 : DFn := ⟨61, (.seq (.region [
      ⟨(some 4), (.alloc .box), [.t 1], none⟩,
      ⟨(some 6), (.pure .mov), [.c (.slice none 0 0)], none⟩] false) c11_0), [.tmp 6]⟩
theorem c11 : (match Try.prog.funcs[11]? with | some fn => compileFn Try.prog 0 [none, none, none, none, some [6], some [], none, none, none, none, none, some [6], none, none, none, some [6], some [0, 4, 10, 46], none, none, none, none, some [6]] fn | none => none) = some k11 := by kernel_rfl
def q11_0 (tb : Nat → Option DFn) (nv : CallF) (Q : Value → Heap → Prop) : Kont := kSeq (fun wf H => wC tb nv c11_5 wf H (kFn [.tmp 6] Q)) (kFn [.tmp 6] Q)
def q11_1 (tb : Nat → Option DFn) (nv : CallF) (Q : Value → Heap → Prop) : Kont := kBlk 0 (q11_0 tb nv Q)
def w11_21 (tb : Nat → Option DFn) (nv : CallF) (H : Heap) (Q : Value → Heap → Prop) : Prop := wC tb nv c11_21 (mkW []) H (kFn [.tmp 6] Q)
def w11_18 (tb : Nat → Option DFn) (nv : CallF) (t0 t4 t10 t46 : Value) (H : Heap) (Q : Value → Heap → Prop) : Prop := wC tb nv c11_18 (mkW [(0, t0), (4, t4), (10, t10), (46, t46)]) H (q11_1 tb nv Q)
theorem e11 (tb : Nat → Option DFn) (nv : CallF) (a0 a1 a2 : Value) (H : Heap) (Q : Value → Heap → Prop) : wFn tb nv k11 [a0, a1, a2] H Q = (
    wA .box [a1] H fun x0 H1 =>
    wP (.nilEq false .ptr) [a0] fun x2 =>
    asB x2 fun b3 => onB b3 (atK (Q (.slice none 0 0) H1))
    (wP (.fadd 0) [x0] fun x4 =>
    wR (.load 1 false) [x4] H1 fun x5 =>
    wP (.bin .eql) [x5, (.int .i64 2)] fun x6 =>
    asB x6 fun b7 => onB b7 (wP (.fadd 24) [x0] fun x8 =>
    wR (.load 2 true) [x8] H1 fun x9 =>
    Ev tb nv 23 [x9] H1 fun x10 H11 =>
    wP (.un .not) [x10] fun x12 =>
    asB x12 fun b13 => onB b13 (atK (Q (.slice none 0 0) H11))
    (wP (.fadd 24) [x0] fun x14 =>
    wP (.fadd 0) [x14] fun x15 =>
    wR (.load 1 false) [x15] H11 fun x16 =>
    wP .nilchk [a0] fun x17 =>
    wP (.fadd 3) [x17] fun x18 =>
    wP (.fadd 0) [x18] fun x19 =>
    wR (.load 1 false) [x19] H11 fun x20 =>
    wP (.bin .leq) [x16, x20] fun x21 =>
    asB x21 fun b22 => onB b22 (atK (Q (.slice none 0 0) H11))
    (wP (.fadd 24) [x0] fun x23 =>
    wP (.fadd 0) [x23] fun x24 =>
    wR (.load 1 false) [x24] H11 fun x25 =>
    wP (.fadd 24) [x0] fun x26 =>
    wP (.fadd 1) [x26] fun x27 =>
    wR (.load 1 false) [x27] H11 fun x28 =>
    Ev tb nv 24 [x28] H11 fun x29 H30 =>
    wP (.build [(.int .i64 0), (.slice none 0 0)] [(0, 1), (1, 1)]) [x25, x29] fun x31 =>
    wP .nilchk [a0] fun x32 =>
    wP (.fadd 3) [x32] fun x33 =>
    wE (.store 2) [x33, x31] H30 fun x34 H35 =>
    wChk [H11, H11, H11, H11, H11, H11, H11, H11, H30, H30, H30, H30, H35] [⟨(.load 1 false), [x24], x25, [8]⟩] (wP .nilchk [a0] fun x36 =>
    wP (.fadd 2) [x36] fun x37 =>
    wR (.load 1 false) [x37] H35 fun x38 =>
    wP (.nilEq true .ptr) [x38] fun x39 =>
    asB x39 fun b40 => onB b40 (Ev tb nv 22 [a0] H35 fun x41 H42 =>
    atK (Q x41 H42))
    (atK (w11_21 tb nv  H35 Q))))))
    (wP (.bin .eql) [x5, (.int .i64 8)] fun x43 =>
    asB x43 fun b44 => onB b44 (atK (w11_18 tb nv a0 x0 x5 (.bool true) H1 Q))
    (wP (.bin .eql) [x5, (.int .i64 10)] fun x45 =>
    atK (w11_18 tb nv a0 x0 x5 x45 H1 Q))))) := by kernel_rfl
theorem e11_21 (tb : Nat → Option DFn) (nv : CallF) (H : Heap) (Q : Value → Heap → Prop) : w11_21 tb nv  H Q = (
    atK (Q (.slice none 0 0) H)) := by kernel_rfl
theorem e11_18 (tb : Nat → Option DFn) (nv : CallF) (t0 t4 t10 t46 : Value) (H : Heap) (Q : Value → Heap → Prop) : w11_18 tb nv t0 t4 t10 t46 H Q = (
    asB t46 fun b46 => onB b46 (Ev tb nv 25 [t0, t4] H fun x47 H48 =>
    asB x47 fun b49 => onB b49 (wP (.fadd 21) [t4] fun x50 =>
    wR (.load 3 true) [x50] H48 fun x51 =>
    wP (.fadd 5) [t4] fun x52 =>
    wR (.load 1 false) [x52] H48 fun x53 =>
    Ev tb nv 26 [t0, x51, x53] H48 fun x54 H55 =>
    atK (w11_21 tb nv  H55 Q))
    (atK (w11_21 tb nv  H48 Q)))
    (wP (.bin .eql) [t10, (.int .i64 14)] fun x56 =>
    asB x56 fun b57 => onB b57 (Ev tb nv 27 [t0, t4] H fun x58 H59 =>
    atK (w11_21 tb nv  H59 Q))
    (atK (w11_21 tb nv  H Q)))) := by kernel_rfl

/-- (*tompion/client.Client).Pending -/
def c12_6 : C := .ret
def c12_5 : C := (.keep [2, 3] c12_6)
def c12_1 : C := (.seq (.region [
      ⟨(some 13), (.pure .mov), [.t 0], none⟩,
      ⟨(some 14), (.pure .nilchk), [.t 13], none⟩,
      ⟨(some 15), (.pure (.fadd 2)), [.t 14], none⟩,
      ⟨(some 16), (.read (.load 1 false) []), [.t 15], none⟩,
      ⟨(some 17), (.pure .nilchk), [.t 16], none⟩,
      ⟨(some 18), (.pure (.fadd 5)), [.t 17], none⟩,
      ⟨(some 19), (.read (.load 1 false) []), [.t 18], none⟩,
      ⟨(some 2), (.pure .mov), [.t 19], none⟩,
      ⟨(some 3), (.pure .mov), [.c (.bool true)], none⟩] false) c12_5)
def c12_4 : C := .ret
def c12_3 : C := (.keep [2, 3] c12_4)
def c12_2 : C := (.cond (.t 12) (.seq (.region [
      ⟨(some 2), (.pure .mov), [.c (.int .i64 (Int.ofNat 0))], none⟩,
      ⟨(some 3), (.pure .mov), [.c (.bool false)], none⟩] false) c12_3)
    .skip)
def c12_0 : C := (.seq (.seq (.region [
      ⟨(some 4), (.pure .mov), [.t 0], none⟩,
      ⟨(some 5), (.pure (.nilEq false .ptr)), [.t 4], none⟩,
      ⟨(some 6), (.pure .mov), [.t 5], none⟩,
      ⟨(some 7), (.pure .mov), [.t 0], (some (6, false))⟩,
      ⟨(some 8), (.pure .nilchk), [.t 7], (some (6, false))⟩,
      ⟨(some 9), (.pure (.fadd 2)), [.t 8], (some (6, false))⟩,
      ⟨(some 10), (.read (.load 1 false) []), [.t 9], (some (6, false))⟩,
      ⟨(some 11), (.pure (.nilEq false .ptr)), [.t 10], (some (6, false))⟩,
      ⟨(some 12), (.pure .pick), [.t 6, .c (.bool true), .t 11], none⟩] false) c12_2) c12_1)
def k12 : DFn := ⟨20, (.seq (.region [
      ⟨(some 2), (.pure .mov), [.c (.int .i64 (Int.ofNat 0))], none⟩,
      ⟨(some 3), (.pure .mov), [.c (.bool false)], none⟩] false) c12_0), [.tmp 2, .tmp 3]⟩
theorem c12 : (match Try.prog.funcs[12]? with | some fn => compileFn Try.prog 0 [none, none, none, none, some [2, 3], none, some [2, 3]] fn | none => none) = some k12 := by kernel_rfl
theorem e12 (tb : Nat → Option DFn) (nv : CallF) (a0 : Value) (H : Heap) (Q : Value → Heap → Prop) : wFn tb nv k12 [a0] H Q = (
    wP (.nilEq false .ptr) [a0] fun x0 =>
    asB x0 fun b1 => onB b1 (atK (Q (.tuple ⟨[(.int .i64 0), (.bool false)]⟩) H))
    (wP .nilchk [a0] fun x2 =>
    wP (.fadd 2) [x2] fun x3 =>
    wR (.load 1 false) [x3] H fun x4 =>
    wP (.nilEq false .ptr) [x4] fun x5 =>
    asB x5 fun b6 => onB b6 (atK (Q (.tuple ⟨[(.int .i64 0), (.bool false)]⟩) H))
    (wP .nilchk [a0] fun x7 =>
    wP (.fadd 2) [x7] fun x8 =>
    wR (.load 1 false) [x8] H fun x9 =>
    wP .nilchk [x9] fun x10 =>
    wP (.fadd 5) [x10] fun x11 =>
    wR (.load 1 false) [x11] H fun x12 =>
    atK (Q (.tuple ⟨[x12, (.bool true)]⟩) H)))) := by kernel_rfl

/-- (*tompion/client.Client).Next -/
def c13_8 : C := .ret
def c13_7 : C := (.keep [2, 3] c13_8)
def c13_6 : C := (.seq (.region [
      ⟨(some 29), (.read (.load 13 true) []), [.t 2], none⟩,
      ⟨none, (.eff (.store 13)), [.t 2, .t 29], none⟩,
      ⟨(some 3), (.pure .mov), [.c (.bool true)], none⟩] false) c13_7)
def c13_5 : C := (.seq (.region [
      ⟨(some 21), (.pure .mov), [.t 0], none⟩,
      ⟨(some 22), (.pure .mov), [.t 0], none⟩,
      ⟨(some 23), (.pure .nilchk), [.t 22], none⟩,
      ⟨(some 24), (.pure (.fadd 5)), [.t 23], none⟩,
      ⟨(some 25), (.read (.load 1 false) []), [.t 24], none⟩,
      ⟨(some 26), (.pure (.slcS 13 true false false)), [.t 25, .c (.int .i64 (Int.ofNat 1))], none⟩,
      ⟨(some 27), (.pure .nilchk), [.t 21], none⟩,
      ⟨(some 28), (.pure (.fadd 5)), [.t 27], none⟩,
      ⟨none, (.eff (.store 1)), [.t 28, .t 26], none⟩] false) c13_6)
def c13_1 : C := (.seq (.region [
      ⟨(some 15), (.pure .mov), [.t 0], none⟩,
      ⟨(some 16), (.pure .nilchk), [.t 15], none⟩,
      ⟨(some 17), (.pure (.fadd 5)), [.t 16], none⟩,
      ⟨(some 18), (.read (.load 1 false) []), [.t 17], none⟩,
      ⟨(some 19), (.pure (.iaddS 13)), [.t 18, .c (.int .i64 (Int.ofNat 0))], none⟩,
      ⟨(some 20), (.read (.load 13 true) []), [.t 19], none⟩,
      ⟨none, (.eff (.store 13)), [.t 2, .t 20], none⟩] false) c13_5)
def c13_4 : C := .ret
def c13_3 : C := (.keep [2, 3] c13_4)
def c13_2 : C := (.cond (.t 13) (.seq (.region [
      ⟨(some 14), (.read (.load 13 true) []), [.t 2], none⟩,
      ⟨none, (.eff (.store 13)), [.t 2, .t 14], none⟩,
      ⟨(some 3), (.pure .mov), [.c (.bool false)], none⟩] false) c13_3)
    .skip)
def c13_0 : C := (.seq (.seq (.region [
      ⟨(some 4), (.pure .mov), [.t 0], none⟩,
      ⟨(some 5), (.pure (.nilEq false .ptr)), [.t 4], none⟩,
      ⟨(some 6), (.pure .mov), [.t 5], none⟩,
      ⟨(some 7), (.pure .mov), [.t 0], (some (6, false))⟩,
      ⟨(some 8), (.pure .nilchk), [.t 7], (some (6, false))⟩,
      ⟨(some 9), (.pure (.fadd 5)), [.t 8], (some (6, false))⟩,
      ⟨(some 10), (.read (.load 1 false) []), [.t 9], (some (6, false))⟩,
      ⟨(some 11), (.pure .lenS), [.t 10], (some (6, false))⟩,
      ⟨(some 12), (.pure (.bin .eql)), [.t 11, .c (.int .i64 (Int.ofNat 0))], (some (6, false))⟩,
      ⟨(some 13), (.pure .pick), [.t 6, .c (.bool true), .t 12], none⟩] false) c13_2) c13_1)
def k13 : DFn := ⟨30, (.seq (.region [
      ⟨(some 2), (.alloc (.alloc [(.int .i64 (Int.ofNat 0)), (.int .i64 (Int.ofNat 0)), (.int .i64 (Int.ofNat 0)), (.int .i64 (Int.ofNat 0)), (.int .i64 (Int.ofNat 0)), (.int .i64 (Int.ofNat 0)), (.int .i64 (Int.ofNat 0)), (.int .i64 (Int.ofNat 0)), (.string ⟨⟨[]⟩⟩), (.int .i64 (Int.ofNat 0)), (.int .i64 (Int.ofNat 0)), (.int .i64 (Int.ofNat 0)), (.int .i64 (Int.ofNat 0))])), [], none⟩,
      ⟨(some 3), (.pure .mov), [.c (.bool false)], none⟩] false) c13_0), [.cell 2 13 true, .tmp 3]⟩
theorem c13 : (match Try.prog.funcs[13]? with | some fn => compileFn Try.prog 0 [none, none, none, none, some [2, 3], none, none, none, some [2, 3]] fn | none => none) = some k13 := by kernel_rfl
theorem e13 (tb : Nat → Option DFn) (nv : CallF) (a0 : Value) (H : Heap) (Q : Value → Heap → Prop) : wFn tb nv k13 [a0] H Q = (
    wA (.alloc [(.int .i64 0), (.int .i64 0), (.int .i64 0), (.int .i64 0), (.int .i64 0), (.int .i64 0), (.int .i64 0), (.int .i64 0), (.string ⟨⟨[]⟩⟩), (.int .i64 0), (.int .i64 0), (.int .i64 0), (.int .i64 0)]) [] H fun x0 H1 =>
    wP (.nilEq false .ptr) [a0] fun x2 =>
    asB x2 fun b3 => onB b3 (wR (.load 13 true) [x0] H1 fun x4 =>
    wE (.store 13) [x0, x4] H1 fun x5 H6 =>
    atK (wR (.load 13 true) [x0] H6 fun x7 =>
    Q (.tuple ⟨[x7, (.bool false)]⟩) H6))
    (wP .nilchk [a0] fun x8 =>
    wP (.fadd 5) [x8] fun x9 =>
    wR (.load 1 false) [x9] H1 fun x10 =>
    wP .lenS [x10] fun x11 =>
    wP (.bin .eql) [x11, (.int .i64 0)] fun x12 =>
    asB x12 fun b13 => onB b13 (wR (.load 13 true) [x0] H1 fun x14 =>
    wE (.store 13) [x0, x14] H1 fun x15 H16 =>
    atK (wR (.load 13 true) [x0] H16 fun x17 =>
    Q (.tuple ⟨[x17, (.bool false)]⟩) H16))
    (wP .nilchk [a0] fun x18 =>
    wP (.fadd 5) [x18] fun x19 =>
    wR (.load 1 false) [x19] H1 fun x20 =>
    wP (.iaddS 13) [x20, (.int .i64 0)] fun x21 =>
    wR (.load 13 true) [x21] H1 fun x22 =>
    wE (.store 13) [x0, x22] H1 fun x23 H24 =>
    wP .nilchk [a0] fun x25 =>
    wP (.fadd 5) [x25] fun x26 =>
    wR (.load 1 false) [x26] H24 fun x27 =>
    wP (.slcS 13 true false false) [x27, (.int .i64 1)] fun x28 =>
    wP .nilchk [a0] fun x29 =>
    wP (.fadd 5) [x29] fun x30 =>
    wE (.store 1) [x30, x28] H24 fun x31 H32 =>
    wR (.load 13 true) [x0] H32 fun x33 =>
    wE (.store 13) [x0, x33] H32 fun x34 H35 =>
    atK (wR (.load 13 true) [x0] H35 fun x36 =>
    Q (.tuple ⟨[x36, (.bool true)]⟩) H35)))) := by kernel_rfl

/-- (*tompion/client.Client).Cursor -/
def c14_6 : C := .ret
def c14_5 : C := (.keep [2] c14_6)
def c14_1 : C := (.seq (.region [
      ⟨(some 5), (.pure .mov), [.t 0], none⟩,
      ⟨(some 6), (.pure .nilchk), [.t 5], none⟩,
      ⟨(some 7), (.pure (.fadd 8)), [.t 6], none⟩,
      ⟨(some 8), (.read (.load 1 false) []), [.t 7], none⟩,
      ⟨(some 2), (.pure .mov), [.t 8], none⟩] false) c14_5)
def c14_4 : C := .ret
def c14_3 : C := (.keep [2] c14_4)
def c14_2 : C := (.cond (.t 4) (.seq (.region [
      ⟨(some 2), (.pure .mov), [.c (.int .i64 (Int.ofNat 0))], none⟩] false) c14_3)
    .skip)
def c14_0 : C := (.seq (.seq (.region [
      ⟨(some 3), (.pure .mov), [.t 0], none⟩,
      ⟨(some 4), (.pure (.nilEq false .ptr)), [.t 3], none⟩] false) c14_2) c14_1)
def k14 : DFn := ⟨9, (.seq (.region [
      ⟨(some 2), (.pure .mov), [.c (.int .i64 (Int.ofNat 0))], none⟩] false) c14_0), [.tmp 2]⟩
theorem c14 : (match Try.prog.funcs[14]? with | some fn => compileFn Try.prog 0 [none, none, none, none, some [2], none, some [2]] fn | none => none) = some k14 := by kernel_rfl
theorem e14 (tb : Nat → Option DFn) (nv : CallF) (a0 : Value) (H : Heap) (Q : Value → Heap → Prop) : wFn tb nv k14 [a0] H Q = (
    wP (.nilEq false .ptr) [a0] fun x0 =>
    asB x0 fun b1 => onB b1 (atK (Q (.int .i64 0) H))
    (wP .nilchk [a0] fun x2 =>
    wP (.fadd 8) [x2] fun x3 =>
    wR (.load 1 false) [x3] H fun x4 =>
    atK (Q x4 H))) := by kernel_rfl

/-- (*tompion/client.Client).Handed -/
def c15_6 : C := .ret
def c15_5 : C := (.keep [2] c15_6)
def c15_1 : C := (.seq (.region [
      ⟨(some 5), (.pure .mov), [.t 0], none⟩,
      ⟨(some 6), (.pure .nilchk), [.t 5], none⟩,
      ⟨(some 7), (.pure (.fadd 6)), [.t 6], none⟩,
      ⟨(some 8), (.read (.load 1 false) []), [.t 7], none⟩,
      ⟨(some 9), (.call 28), [.t 8], none⟩,
      ⟨(some 2), (.pure .mov), [.t 9], none⟩] false) c15_5)
def c15_4 : C := .ret
def c15_3 : C := (.keep [2] c15_4)
def c15_2 : C := (.cond (.t 4) (.seq (.region [
      ⟨(some 2), (.pure .mov), [.c (.slice none 0 0)], none⟩] false) c15_3)
    .skip)
def c15_0 : C := (.seq (.seq (.region [
      ⟨(some 3), (.pure .mov), [.t 0], none⟩,
      ⟨(some 4), (.pure (.nilEq false .ptr)), [.t 3], none⟩] false) c15_2) c15_1)
def k15 : DFn := ⟨10, (.seq (.region [
      ⟨(some 2), (.pure .mov), [.c (.slice none 0 0)], none⟩] false) c15_0), [.tmp 2]⟩
theorem c15 : (match Try.prog.funcs[15]? with | some fn => compileFn Try.prog 0 [none, none, none, none, some [2], none, some [2]] fn | none => none) = some k15 := by kernel_rfl
theorem e15 (tb : Nat → Option DFn) (nv : CallF) (a0 : Value) (H : Heap) (Q : Value → Heap → Prop) : wFn tb nv k15 [a0] H Q = (
    wP (.nilEq false .ptr) [a0] fun x0 =>
    asB x0 fun b1 => onB b1 (atK (Q (.slice none 0 0) H))
    (wP .nilchk [a0] fun x2 =>
    wP (.fadd 6) [x2] fun x3 =>
    wR (.load 1 false) [x3] H fun x4 =>
    Ev tb nv 28 [x4] H fun x5 H6 =>
    atK (Q x5 H6))) := by kernel_rfl

/-- tompion/tompionref11.Right -/
def c16_32 : C := .ret
def c16_31 : C := (.keep [2] c16_32)
def c16_30 : C := (.seq (.region [
      ⟨(some 2), (.pure .mov), [.c (.bool true)], none⟩] false) c16_31)
def c16_5 : C := (.keep [] c16_30)
def c16_29 : C := .skip
def c16_8 : C := (.keep [1, 3] c16_29)
def c16_28 : C := (.region [
      ⟨(some 38), (.pure .mov), [.t 3], none⟩,
      ⟨(some 39), (.pure (.bin .add)), [.t 38, .c (.int .i64 (Int.ofNat 1))], none⟩,
      ⟨(some 3), (.pure .mov), [.t 39], none⟩] false)
def c16_12 : C := (.keep [1, 3] c16_28)
def c16_27 : C := .skip
def c16_19 : C := (.keep [1, 3, 4] c16_27)
def c16_23 : C := (.region [
      ⟨(some 51), (.pure .mov), [.t 4], none⟩,
      ⟨(some 52), (.pure (.bin .add)), [.t 51, .c (.int .i64 (Int.ofNat 1))], none⟩,
      ⟨(some 4), (.pure .mov), [.t 52], none⟩] false)
def c16_26 : C := .ret
def c16_25 : C := (.keep [2] c16_26)
def c16_24 : C := (.cond (.t 67) (.seq (.region [
      ⟨(some 2), (.pure .mov), [.c (.bool false)], none⟩] false) c16_25)
    .skip)
def c16_20 : C := (.seq (.block 3 (.seq (.region [
      ⟨(some 53), (.pure (.fadd 1)), [.t 1], none⟩,
      ⟨(some 54), (.read (.load 1 false) []), [.t 53], none⟩,
      ⟨(some 55), (.pure .mov), [.t 4], none⟩,
      ⟨(some 56), (.pure (.iaddS 3)), [.t 54, .t 55], none⟩,
      ⟨(some 57), (.pure (.fadd 0)), [.t 56], none⟩,
      ⟨(some 58), (.pure (.fadd 0)), [.t 57], none⟩,
      ⟨(some 59), (.read (.load 1 false) []), [.t 58], none⟩,
      ⟨(some 60), (.pure (.fadd 1)), [.t 1], none⟩,
      ⟨(some 61), (.read (.load 1 false) []), [.t 60], none⟩,
      ⟨(some 62), (.pure .mov), [.t 3], none⟩,
      ⟨(some 63), (.pure (.iaddS 3)), [.t 61, .t 62], none⟩,
      ⟨(some 64), (.pure (.fadd 0)), [.t 63], none⟩,
      ⟨(some 65), (.pure (.fadd 0)), [.t 64], none⟩,
      ⟨(some 66), (.read (.load 1 false) []), [.t 65], none⟩,
      ⟨(some 67), (.pure (.bin .eql)), [.t 59, .t 66], none⟩] false) c16_24)) c16_23)
def c16_22 : C := (.exit 2)
def c16_21 : C := (.cond (.t 50) .skip
    (.keep [1, 3] c16_22))
def c16_18 : C := (.seq (.seq (.seq (.region [
      ⟨(some 48), (.pure .mov), [.t 4], none⟩,
      ⟨(some 49), (.pure .mov), [.t 3], none⟩,
      ⟨(some 50), (.pure (.bin .lss)), [.t 48, .t 49], none⟩] false) c16_21) c16_20) c16_19)
def c16_17 : C := (.block 2 (.loop (some [1, 3, 4]) c16_18))
def c16_13 : C := (.seq (.region [
      ⟨(some 4), (.pure .mov), [.c (.int .i64 (Int.ofNat 0))], none⟩] false) c16_17)
def c16_16 : C := .ret
def c16_15 : C := (.keep [2] c16_16)
def c16_14 : C := (.cond (.t 47) (.seq (.region [
      ⟨(some 2), (.pure .mov), [.c (.bool false)], none⟩] false) c16_15)
    .skip)
def c16_9 : C := (.seq (.block 1 (.seq (.seq (.region [
      ⟨(some 40), (.pure (.fadd 1)), [.t 1], none⟩,
      ⟨(some 41), (.read (.load 1 false) []), [.t 40], none⟩,
      ⟨(some 42), (.pure .mov), [.t 3], none⟩,
      ⟨(some 43), (.pure (.iaddS 3)), [.t 41, .t 42], none⟩,
      ⟨(some 44), (.pure (.fadd 0)), [.t 43], none⟩,
      ⟨(some 45), (.read (.load 2 true) []), [.t 44], none⟩,
      ⟨(some 46), (.call 29), [.t 45], none⟩,
      ⟨(some 47), (.pure (.un .not)), [.t 46], none⟩] false) c16_14) c16_13)) c16_12)
def c16_11 : C := (.exit 0)
def c16_10 : C := (.cond (.t 37) .skip
    (.keep [] c16_11))
def c16_7 : C := (.seq (.seq (.seq (.region [
      ⟨(some 33), (.pure .mov), [.t 3], none⟩,
      ⟨(some 34), (.pure (.fadd 1)), [.t 1], none⟩,
      ⟨(some 35), (.read (.load 1 false) []), [.t 34], none⟩,
      ⟨(some 36), (.pure .lenS), [.t 35], none⟩,
      ⟨(some 37), (.pure (.bin .lss)), [.t 33, .t 36], none⟩] false) c16_10) c16_9) c16_8)
def c16_6 : C := (.block 0 (.loop (some [1, 3]) c16_7))
def c16_1 : C := (.seq (.seq (.region [
      ⟨(some 3), (.pure .mov), [.c (.int .i64 (Int.ofNat 0))], none⟩] false) c16_6) c16_5)
def c16_4 : C := .ret
def c16_3 : C := (.keep [2] c16_4)
def c16_2 : C := (.cond (.t 32) (.seq (.region [
      ⟨(some 2), (.pure .mov), [.c (.bool false)], none⟩] false) c16_3)
    .skip)
def c16_0 : C := (.seq (.seq (.region [
      ⟨(some 5), (.pure (.fadd 0)), [.t 1], none⟩,
      ⟨(some 6), (.read (.load 1 false) []), [.t 5], none⟩,
      ⟨(some 7), (.pure (.bin .lss)), [.t 6, .c (.int .i64 (Int.ofNat 1))], none⟩,
      ⟨(some 8), (.pure .mov), [.t 7], none⟩,
      ⟨(some 9), (.pure (.fadd 0)), [.t 1], (some (8, false))⟩,
      ⟨(some 10), (.read (.load 1 false) []), [.t 9], (some (8, false))⟩,
      ⟨(some 11), (.pure (.bin .gtr)), [.t 10, .c (.int .i64 (Int.ofNat 1099511627776))], (some (8, false))⟩,
      ⟨(some 12), (.pure .pick), [.t 8, .c (.bool true), .t 11], none⟩,
      ⟨(some 13), (.pure .mov), [.t 12], none⟩,
      ⟨(some 14), (.pure (.fadd 1)), [.t 1], (some (13, false))⟩,
      ⟨(some 15), (.read (.load 1 false) []), [.t 14], (some (13, false))⟩,
      ⟨(some 16), (.pure .lenS), [.t 15], (some (13, false))⟩,
      ⟨(some 17), (.pure (.bin .lss)), [.t 16, .c (.int .i64 (Int.ofNat 1))], (some (13, false))⟩,
      ⟨(some 18), (.pure .pick), [.t 13, .c (.bool true), .t 17], none⟩,
      ⟨(some 19), (.pure .mov), [.t 18], none⟩,
      ⟨(some 20), (.pure (.fadd 1)), [.t 1], (some (19, false))⟩,
      ⟨(some 21), (.read (.load 1 false) []), [.t 20], (some (19, false))⟩,
      ⟨(some 22), (.pure .lenS), [.t 21], (some (19, false))⟩,
      ⟨(some 23), (.pure (.bin .gtr)), [.t 22, .c (.int .i64 (Int.ofNat 8))], (some (19, false))⟩,
      ⟨(some 24), (.pure .pick), [.t 19, .c (.bool true), .t 23], none⟩,
      ⟨(some 25), (.pure .mov), [.t 24], none⟩,
      ⟨(some 26), (.pure (.fadd 1)), [.t 1], (some (25, false))⟩,
      ⟨(some 27), (.read (.load 1 false) []), [.t 26], (some (25, false))⟩,
      ⟨(some 28), (.pure (.iaddS 3)), [.t 27, .c (.int .i64 (Int.ofNat 0))], (some (25, false))⟩,
      ⟨(some 29), (.pure (.fadd 2)), [.t 28], (some (25, false))⟩,
      ⟨(some 30), (.read (.load 1 false) []), [.t 29], (some (25, false))⟩,
      ⟨(some 31), (.pure (.un .not)), [.t 30], (some (25, false))⟩,
      ⟨(some 32), (.pure .pick), [.t 25, .c (.bool true), .t 31], none⟩] false) c16_2) c16_1)
def k16 : DFn := ⟨68, (.seq (.region [
      ⟨(some 1), (.alloc .box), [.t 0], none⟩,
      ⟨(some 2), (.pure .mov), [.c (.bool false)], none⟩] false) c16_0), [.tmp 2]⟩
theorem c16 : (match Try.prog.funcs[16]? with | some fn => compileFn Try.prog 0 [none, none, none, none, some [2], some [], none, some [1, 3], none, none, some [], some [1, 3], none, none, none, some [2], none, some [1, 3, 4], none, none, some [1, 3], none, none, none, some [2], none, some [2]] fn | none => none) = some k16 := by kernel_rfl
def q16_0 (tb : Nat → Option DFn) (nv : CallF) (Q : Value → Heap → Prop) : Kont := kSeq (fun wf H => wC tb nv c16_5 wf H (kFn [.tmp 2] Q)) (kFn [.tmp 2] Q)
def q16_1 (tb : Nat → Option DFn) (nv : CallF) (Q : Value → Heap → Prop) : Kont := kBlk 0 (q16_0 tb nv Q)
def q16_2 (tb : Nat → Option DFn) (nv : CallF) (K : Kont) : Kont := kSeq (fun wf H => wC tb nv c16_8 wf H K) K
def q16_3 (tb : Nat → Option DFn) (nv : CallF) (K : Kont) : Kont := kSeq (fun wf H => wC tb nv c16_12 wf H (q16_2 tb nv K)) (q16_2 tb nv K)
def q16_4 (tb : Nat → Option DFn) (nv : CallF) (K : Kont) : Kont := kBlk 1 (q16_3 tb nv K)
def q16_5 (tb : Nat → Option DFn) (nv : CallF) (K : Kont) : Kont := kBlk 2 (q16_4 tb nv K)
def w16_30 (tb : Nat → Option DFn) (nv : CallF) (H : Heap) (Q : Value → Heap → Prop) : Prop := wC tb nv c16_30 (mkW []) H (kFn [.tmp 2] Q)
def w16_28 (tb : Nat → Option DFn) (nv : CallF) (t1 t3 : Value) (H : Heap) (K : Kont) : Prop := wC tb nv c16_28 (mkW [(1, t1), (3, t3)]) H (q16_2 tb nv K)
theorem e16 (tb : Nat → Option DFn) (nv : CallF) (a0 : Value) (H : Heap) (Q : Value → Heap → Prop) : wFn tb nv k16 [a0] H Q = (
    wA .box [a0] H fun x0 H1 =>
    wP (.fadd 0) [x0] fun x2 =>
    wR (.load 1 false) [x2] H1 fun x3 =>
    wP (.bin .lss) [x3, (.int .i64 1)] fun x4 =>
    asB x4 fun b5 => onB b5 (atK (Q (.bool false) H1))
    (wP (.fadd 0) [x0] fun x6 =>
    wR (.load 1 false) [x6] H1 fun x7 =>
    wP (.bin .gtr) [x7, (.int .i64 1099511627776)] fun x8 =>
    asB x8 fun b9 => onB b9 (atK (Q (.bool false) H1))
    (wP (.fadd 1) [x0] fun x10 =>
    wR (.load 1 false) [x10] H1 fun x11 =>
    wP .lenS [x11] fun x12 =>
    wP (.bin .lss) [x12, (.int .i64 1)] fun x13 =>
    asB x13 fun b14 => onB b14 (atK (Q (.bool false) H1))
    (wP (.fadd 1) [x0] fun x15 =>
    wR (.load 1 false) [x15] H1 fun x16 =>
    wP .lenS [x16] fun x17 =>
    wP (.bin .gtr) [x17, (.int .i64 8)] fun x18 =>
    asB x18 fun b19 => onB b19 (atK (Q (.bool false) H1))
    (wP (.fadd 1) [x0] fun x20 =>
    wR (.load 1 false) [x20] H1 fun x21 =>
    wP (.iaddS 3) [x21, (.int .i64 0)] fun x22 =>
    wP (.fadd 2) [x22] fun x23 =>
    wR (.load 1 false) [x23] H1 fun x24 =>
    wP (.un .not) [x24] fun x25 =>
    asB x25 fun b26 => onB b26 (atK (Q (.bool false) H1))
    (wLoop tb nv c16_7 [1, 3] (mkW [(1, x0), (3, (.int .i64 0))]) H1 (q16_1 tb nv Q))))))) := by kernel_rfl
theorem l16_7 (tb : Nat → Option DFn) (nv : CallF) (t1 t3 : Value) (H : Heap) (K : Kont) : wC tb nv c16_7 (mkW [(1, t1), (3, t3)]) H K = (
    wP (.fadd 1) [t1] fun x27 =>
    wR (.load 1 false) [x27] H fun x28 =>
    wP .lenS [x28] fun x29 =>
    wP (.bin .lss) [t3, x29] fun x30 =>
    asB x30 fun b31 => onB b31 (wP (.fadd 1) [t1] fun x32 =>
    wR (.load 1 false) [x32] H fun x33 =>
    wP (.iaddS 3) [x33, t3] fun x34 =>
    wP (.fadd 0) [x34] fun x35 =>
    wR (.load 2 true) [x35] H fun x36 =>
    Ev tb nv 29 [x36] H fun x37 H38 =>
    wP (.un .not) [x37] fun x39 =>
    asB x39 fun b40 => onB b40 (atK (K .ret (mkW [(2, (.bool false))]) H38))
    (wLoop tb nv c16_18 [1, 3, 4] (mkW [(1, t1), (3, t3), (4, (.int .i64 0))]) H38 (q16_5 tb nv K)))
    (atK (K (.exit 0) (mkW []) H))) := by kernel_rfl
theorem x16_7_0 (tb : Nat → Option DFn) (nv : CallF) (t2 : Value) (H : Heap) (Q : Value → Heap → Prop) : (q16_1 tb nv Q) .ret (mkW [(2, t2)]) H = (
    Q t2 H) := by kernel_rfl
theorem x16_7_1 (tb : Nat → Option DFn) (nv : CallF) (H : Heap) (Q : Value → Heap → Prop) : (q16_1 tb nv Q) (.exit 0) (mkW []) H = (
    atK (w16_30 tb nv  H Q)) := by kernel_rfl
theorem e16_30 (tb : Nat → Option DFn) (nv : CallF) (H : Heap) (Q : Value → Heap → Prop) : w16_30 tb nv  H Q = (
    atK (Q (.bool true) H)) := by kernel_rfl
theorem l16_18 (tb : Nat → Option DFn) (nv : CallF) (t1 t3 t4 : Value) (H : Heap) (K : Kont) : wC tb nv c16_18 (mkW [(1, t1), (3, t3), (4, t4)]) H K = (
    wP (.bin .lss) [t4, t3] fun x41 =>
    asB x41 fun b42 => onB b42 (wP (.fadd 1) [t1] fun x43 =>
    wR (.load 1 false) [x43] H fun x44 =>
    wP (.iaddS 3) [x44, t4] fun x45 =>
    wP (.fadd 0) [x45] fun x46 =>
    wP (.fadd 0) [x46] fun x47 =>
    wR (.load 1 false) [x47] H fun x48 =>
    wP (.fadd 1) [t1] fun x49 =>
    wR (.load 1 false) [x49] H fun x50 =>
    wP (.iaddS 3) [x50, t3] fun x51 =>
    wP (.fadd 0) [x51] fun x52 =>
    wP (.fadd 0) [x52] fun x53 =>
    wR (.load 1 false) [x53] H fun x54 =>
    wP (.bin .eql) [x48, x54] fun x55 =>
    asB x55 fun b56 => onB b56 (atK (K .ret (mkW [(2, (.bool false))]) H))
    (wP (.bin .add) [t4, (.int .i64 1)] fun x57 =>
    atK (K .normal (mkW [(1, t1), (3, t3), (4, x57)]) H)))
    (atK (K (.exit 2) (mkW [(1, t1), (3, t3)]) H))) := by kernel_rfl
theorem x16_18_0 (tb : Nat → Option DFn) (nv : CallF) (t2 : Value) (H : Heap) (K : Kont) : (q16_5 tb nv K) .ret (mkW [(2, t2)]) H = (
    K .ret (mkW [(2, t2)]) H) := by kernel_rfl
theorem x16_18_1 (tb : Nat → Option DFn) (nv : CallF) (t1 t3 : Value) (H : Heap) (K : Kont) : (q16_5 tb nv K) (.exit 2) (mkW [(1, t1), (3, t3)]) H = (
    atK (w16_28 tb nv t1 t3 H K)) := by kernel_rfl
theorem e16_28 (tb : Nat → Option DFn) (nv : CallF) (t1 t3 : Value) (H : Heap) (K : Kont) : w16_28 tb nv t1 t3 H K = (
    wP (.bin .add) [t3, (.int .i64 1)] fun x58 =>
    atK (K .normal (mkW [(1, t1), (3, x58)]) H)) := by kernel_rfl

/-- (*tompion/client.Client).Tick -/
def c17_17 : C := .ret
def c17_16 : C := (.keep [4] c17_17)
def c17_15 : C := (.seq (.region [
      ⟨(some 57), (.pure .mov), [.t 4], none⟩,
      ⟨(some 4), (.pure .mov), [.t 57], none⟩] false) c17_16)
def c17_10 : C := (.keep [4] c17_15)
def c17_14 : C := (.region [
      ⟨(some 53), (.pure .mov), [.t 4], none⟩,
      ⟨(some 54), (.read (.load 28 true) []), [.t 7], none⟩,
      ⟨(some 55), (.alloc (.bslice [(.int .i64 (Int.ofNat 0)), (.int .i64 (Int.ofNat 0)), (.int .i64 (Int.ofNat 0)), (.int .i64 (Int.ofNat 0)), (.int .i64 (Int.ofNat 0)), (.int .i64 (Int.ofNat 0)), (.int .i64 (Int.ofNat 0)), (.int .i64 (Int.ofNat 0)), (.int .i64 (Int.ofNat 0)), (.int .i64 (Int.ofNat 0)), (.bool false), (.int .i64 (Int.ofNat 0)), (.int .i64 (Int.ofNat 0)), (.int .i64 (Int.ofNat 0)), (.int .i64 (Int.ofNat 0)), (.int .i64 (Int.ofNat 0)), (.int .i64 (Int.ofNat 0)), (.int .i64 (Int.ofNat 0)), (.int .i64 (Int.ofNat 0)), (.int .i64 (Int.ofNat 0)), (.string ⟨⟨[]⟩⟩), (.int .i64 (Int.ofNat 0)), (.int .i64 (Int.ofNat 0)), (.int .i64 (Int.ofNat 0)), (.int .i64 (Int.ofNat 0)), (.slice none 0 0), (.slice none 0 0), (.int .i64 (Int.ofNat 0))] [(0, 28)] 28 1)), [.t 54], none⟩,
      ⟨(some 56), (.eff (.app 28 264)), [.t 53, .t 55], none⟩,
      ⟨(some 4), (.pure .mov), [.t 56], none⟩] false)
def c17_13 : C := (.seq (.region [
      ⟨(some 48), (.pure .mov), [.t 0], none⟩,
      ⟨(some 49), (.pure .nilchk), [.t 48], none⟩,
      ⟨(some 50), (.pure (.fadd 8)), [.t 49], none⟩,
      ⟨(some 51), (.read (.load 1 false) []), [.t 50], none⟩,
      ⟨(some 52), (.pure (.fadd 5)), [.t 7], none⟩,
      ⟨none, (.eff (.store 1)), [.t 52, .t 51], none⟩] false) c17_14)
def c17_12 : C := (.cond (.t 43) (.seq (.region [
      ⟨(some 44), (.pure .mov), [.t 0], none⟩,
      ⟨(some 45), (.pure (.fadd 0)), [.t 5], none⟩,
      ⟨(some 46), (.read (.load 1 false) []), [.t 45], none⟩,
      ⟨(some 47), (.call 30), [.t 44, .c (.int .i64 (Int.ofNat 13)), .t 46], none⟩,
      ⟨(some 7), (.alloc (.alloc [(.int .i64 (Int.ofNat 0)), (.int .i64 (Int.ofNat 0)), (.int .i64 (Int.ofNat 0)), (.int .i64 (Int.ofNat 0)), (.int .i64 (Int.ofNat 0)), (.int .i64 (Int.ofNat 0)), (.int .i64 (Int.ofNat 0)), (.int .i64 (Int.ofNat 0)), (.int .i64 (Int.ofNat 0)), (.int .i64 (Int.ofNat 0)), (.bool false), (.int .i64 (Int.ofNat 0)), (.int .i64 (Int.ofNat 0)), (.int .i64 (Int.ofNat 0)), (.int .i64 (Int.ofNat 0)), (.int .i64 (Int.ofNat 0)), (.int .i64 (Int.ofNat 0)), (.int .i64 (Int.ofNat 0)), (.int .i64 (Int.ofNat 0)), (.int .i64 (Int.ofNat 0)), (.string ⟨⟨[]⟩⟩), (.int .i64 (Int.ofNat 0)), (.int .i64 (Int.ofNat 0)), (.int .i64 (Int.ofNat 0)), (.int .i64 (Int.ofNat 0)), (.slice none 0 0), (.slice none 0 0), (.int .i64 (Int.ofNat 0))])), [], none⟩,
      ⟨none, (.eff (.store 28)), [.t 7, .t 47], none⟩] false) c17_13)
    .skip)
def c17_11 : C := (.seq (.region [
      ⟨(some 43), (.pure .mov), [.t 6], none⟩] false) c17_12)
def c17_9 : C := (.seq (.seq (.region [
      ⟨(some 36), (.pure .mov), [.t 0], none⟩,
      ⟨(some 37), (.pure .nilchk), [.t 36], none⟩,
      ⟨(some 38), (.pure (.fadd 3)), [.t 37], none⟩,
      ⟨(some 39), (.read (.load 2 true) []), [.t 38], none⟩,
      ⟨(some 40), (.call 31), [.t 39], none⟩,
      ⟨(some 35), (.pure .mov), [.t 40], none⟩,
      ⟨(some 41), (.pure (.extract 0)), [.t 35], none⟩,
      ⟨(some 42), (.pure (.extract 1)), [.t 35], none⟩,
      ⟨(some 5), (.alloc (.alloc [(.int .i64 (Int.ofNat 0)), (.int .i64 (Int.ofNat 0))])), [], none⟩,
      ⟨none, (.eff (.store 2)), [.t 5, .t 41], none⟩,
      ⟨(some 6), (.pure .mov), [.t 42], none⟩] false) c17_11) c17_10)
def c17_8 : C := (.seq (.region [
      ⟨(some 30), (.pure .mov), [.t 4], none⟩,
      ⟨(some 31), (.pure .mov), [.t 0], none⟩,
      ⟨(some 32), (.call 30), [.t 31, .c (.int .i64 (Int.ofNat 15)), .c (.int .i64 (Int.ofNat 200))], none⟩,
      ⟨(some 33), (.alloc (.bslice [(.int .i64 (Int.ofNat 0)), (.int .i64 (Int.ofNat 0)), (.int .i64 (Int.ofNat 0)), (.int .i64 (Int.ofNat 0)), (.int .i64 (Int.ofNat 0)), (.int .i64 (Int.ofNat 0)), (.int .i64 (Int.ofNat 0)), (.int .i64 (Int.ofNat 0)), (.int .i64 (Int.ofNat 0)), (.int .i64 (Int.ofNat 0)), (.bool false), (.int .i64 (Int.ofNat 0)), (.int .i64 (Int.ofNat 0)), (.int .i64 (Int.ofNat 0)), (.int .i64 (Int.ofNat 0)), (.int .i64 (Int.ofNat 0)), (.int .i64 (Int.ofNat 0)), (.int .i64 (Int.ofNat 0)), (.int .i64 (Int.ofNat 0)), (.int .i64 (Int.ofNat 0)), (.string ⟨⟨[]⟩⟩), (.int .i64 (Int.ofNat 0)), (.int .i64 (Int.ofNat 0)), (.int .i64 (Int.ofNat 0)), (.int .i64 (Int.ofNat 0)), (.slice none 0 0), (.slice none 0 0), (.int .i64 (Int.ofNat 0))] [(0, 28)] 28 1)), [.t 32], none⟩,
      ⟨(some 34), (.eff (.app 28 264)), [.t 30, .t 33], none⟩,
      ⟨(some 4), (.pure .mov), [.t 34], none⟩] false) c17_9)
def c17_5 : C := (.keep [0, 4] c17_8)
def c17_7 : C := (.cond (.t 24) (.region [
      ⟨(some 25), (.pure .mov), [.t 0], none⟩,
      ⟨(some 26), (.pure (.build [(.int .i64 (Int.ofNat 0)), (.int .i64 (Int.ofNat 0)), (.int .i64 (Int.ofNat 0))] [(0, 1)])), [.c (.int .i64 (Int.ofNat 9))], none⟩,
      ⟨(some 27), (.call 26), [.t 25, .t 26, .c (.int .i64 (Int.ofNat 0))], none⟩] false)
    (.region [
      ⟨(some 28), (.pure .mov), [.t 0], none⟩,
      ⟨(some 29), (.call 22), [.t 28], none⟩,
      ⟨(some 4), (.pure .mov), [.t 29], none⟩] false))
def c17_6 : C := (.cond (.t 14) (.seq (.region [
      ⟨(some 15), (.pure .mov), [.t 1], none⟩,
      ⟨(some 16), (.pure .mov), [.t 0], none⟩,
      ⟨(some 17), (.pure .nilchk), [.t 16], none⟩,
      ⟨(some 18), (.pure (.fadd 2)), [.t 17], none⟩,
      ⟨(some 19), (.read (.load 1 false) []), [.t 18], none⟩,
      ⟨(some 20), (.pure .nilchk), [.t 19], none⟩,
      ⟨(some 21), (.pure (.fadd 6)), [.t 20], none⟩,
      ⟨(some 22), (.read (.load 1 false) []), [.t 21], none⟩,
      ⟨(some 23), (.pure (.bin .sub)), [.t 15, .t 22], none⟩,
      ⟨(some 24), (.pure (.bin .gtr)), [.t 23, .c (.int .i64 (Int.ofNat 500))], none⟩] false) c17_7)
    .skip)
def c17_1 : C := (.seq (.seq (.region [
      ⟨(some 10), (.pure .mov), [.t 0], none⟩,
      ⟨(some 11), (.pure .nilchk), [.t 10], none⟩,
      ⟨(some 12), (.pure (.fadd 2)), [.t 11], none⟩,
      ⟨(some 13), (.read (.load 1 false) []), [.t 12], none⟩,
      ⟨(some 14), (.pure (.nilEq true .ptr)), [.t 13], none⟩] false) c17_6) c17_5)
def c17_4 : C := .ret
def c17_3 : C := (.keep [4] c17_4)
def c17_2 : C := (.cond (.t 9) (.seq (.region [
      ⟨(some 4), (.pure .mov), [.c (.slice none 0 0)], none⟩] false) c17_3)
    .skip)
def c17_0 : C := (.seq (.seq (.region [
      ⟨(some 8), (.pure .mov), [.t 0], none⟩,
      ⟨(some 9), (.pure (.nilEq false .ptr)), [.t 8], none⟩] false) c17_2) c17_1)
def k17 : DFn := ⟨58, (.seq (.region [
      ⟨(some 4), (.pure .mov), [.c (.slice none 0 0)], none⟩] false) c17_0), [.tmp 4]⟩
theorem c17 : (match Try.prog.funcs[17]? with | some fn => compileFn Try.prog 0 [none, none, none, none, some [4], some [0, 4], none, none, none, some [4], none, none, none, none, none, some [4]] fn | none => none) = some k17 := by kernel_rfl
def w17_8 (tb : Nat → Option DFn) (nv : CallF) (t0 t4 : Value) (H : Heap) (Q : Value → Heap → Prop) : Prop := wC tb nv c17_8 (mkW [(0, t0), (4, t4)]) H (kFn [.tmp 4] Q)
def w17_15 (tb : Nat → Option DFn) (nv : CallF) (t4 : Value) (H : Heap) (Q : Value → Heap → Prop) : Prop := wC tb nv c17_15 (mkW [(4, t4)]) H (kFn [.tmp 4] Q)
theorem e17 (tb : Nat → Option DFn) (nv : CallF) (a0 a1 : Value) (H : Heap) (Q : Value → Heap → Prop) : wFn tb nv k17 [a0, a1] H Q = (
    wP (.nilEq false .ptr) [a0] fun x0 =>
    asB x0 fun b1 => onB b1 (atK (Q (.slice none 0 0) H))
    (wP .nilchk [a0] fun x2 =>
    wP (.fadd 2) [x2] fun x3 =>
    wR (.load 1 false) [x3] H fun x4 =>
    wP (.nilEq true .ptr) [x4] fun x5 =>
    asB x5 fun b6 => onB b6 (wP .nilchk [a0] fun x7 =>
    wP (.fadd 2) [x7] fun x8 =>
    wR (.load 1 false) [x8] H fun x9 =>
    wP .nilchk [x9] fun x10 =>
    wP (.fadd 6) [x10] fun x11 =>
    wR (.load 1 false) [x11] H fun x12 =>
    wP (.bin .sub) [a1, x12] fun x13 =>
    wP (.bin .gtr) [x13, (.int .i64 500)] fun x14 =>
    asB x14 fun b15 => onB b15 (wP (.build [(.int .i64 0), (.int .i64 0), (.int .i64 0)] [(0, 1)]) [(.int .i64 9)] fun x16 =>
    Ev tb nv 26 [a0, x16, (.int .i64 0)] H fun x17 H18 =>
    atK (w17_8 tb nv a0 (.slice none 0 0) H18 Q))
    (Ev tb nv 22 [a0] H fun x19 H20 =>
    atK (w17_8 tb nv a0 x19 H20 Q)))
    (atK (w17_8 tb nv a0 (.slice none 0 0) H Q)))) := by kernel_rfl
theorem e17_8 (tb : Nat → Option DFn) (nv : CallF) (t0 t4 : Value) (H : Heap) (Q : Value → Heap → Prop) : w17_8 tb nv t0 t4 H Q = (
    Ev tb nv 30 [t0, (.int .i64 15), (.int .i64 200)] H fun x21 H22 =>
    wA (.bslice [(.int .i64 0), (.int .i64 0), (.int .i64 0), (.int .i64 0), (.int .i64 0), (.int .i64 0), (.int .i64 0), (.int .i64 0), (.int .i64 0), (.int .i64 0), (.bool false), (.int .i64 0), (.int .i64 0), (.int .i64 0), (.int .i64 0), (.int .i64 0), (.int .i64 0), (.int .i64 0), (.int .i64 0), (.int .i64 0), (.string ⟨⟨[]⟩⟩), (.int .i64 0), (.int .i64 0), (.int .i64 0), (.int .i64 0), (.slice none 0 0), (.slice none 0 0), (.int .i64 0)] [(0, 28)] 28 1) [x21] H22 fun x23 H24 =>
    wE (.app 28 264) [t4, x23] H24 fun x25 H26 =>
    wP .nilchk [t0] fun x27 =>
    wP (.fadd 3) [x27] fun x28 =>
    wR (.load 2 true) [x28] H26 fun x29 =>
    Ev tb nv 31 [x29] H26 fun x30 H31 =>
    wP (.extract 0) [x30] fun x32 =>
    wP (.extract 1) [x30] fun x33 =>
    wA (.alloc [(.int .i64 0), (.int .i64 0)]) [] H31 fun x34 H35 =>
    wE (.store 2) [x34, x32] H35 fun x36 H37 =>
    asB x33 fun b38 => onB b38 (wP (.fadd 0) [x34] fun x39 =>
    wR (.load 1 false) [x39] H37 fun x40 =>
    Ev tb nv 30 [t0, (.int .i64 13), x40] H37 fun x41 H42 =>
    wA (.alloc [(.int .i64 0), (.int .i64 0), (.int .i64 0), (.int .i64 0), (.int .i64 0), (.int .i64 0), (.int .i64 0), (.int .i64 0), (.int .i64 0), (.int .i64 0), (.bool false), (.int .i64 0), (.int .i64 0), (.int .i64 0), (.int .i64 0), (.int .i64 0), (.int .i64 0), (.int .i64 0), (.int .i64 0), (.int .i64 0), (.string ⟨⟨[]⟩⟩), (.int .i64 0), (.int .i64 0), (.int .i64 0), (.int .i64 0), (.slice none 0 0), (.slice none 0 0), (.int .i64 0)]) [] H42 fun x43 H44 =>
    wE (.store 28) [x43, x41] H44 fun x45 H46 =>
    wP .nilchk [t0] fun x47 =>
    wP (.fadd 8) [x47] fun x48 =>
    wR (.load 1 false) [x48] H46 fun x49 =>
    wP (.fadd 5) [x43] fun x50 =>
    wE (.store 1) [x50, x49] H46 fun x51 H52 =>
    wR (.load 28 true) [x43] H52 fun x53 =>
    wA (.bslice [(.int .i64 0), (.int .i64 0), (.int .i64 0), (.int .i64 0), (.int .i64 0), (.int .i64 0), (.int .i64 0), (.int .i64 0), (.int .i64 0), (.int .i64 0), (.bool false), (.int .i64 0), (.int .i64 0), (.int .i64 0), (.int .i64 0), (.int .i64 0), (.int .i64 0), (.int .i64 0), (.int .i64 0), (.int .i64 0), (.string ⟨⟨[]⟩⟩), (.int .i64 0), (.int .i64 0), (.int .i64 0), (.int .i64 0), (.slice none 0 0), (.slice none 0 0), (.int .i64 0)] [(0, 28)] 28 1) [x53] H52 fun x54 H55 =>
    wE (.app 28 264) [x25, x54] H55 fun x56 H57 =>
    atK (w17_15 tb nv x56 H57 Q))
    (atK (w17_15 tb nv x25 H37 Q))) := by kernel_rfl
theorem e17_15 (tb : Nat → Option DFn) (nv : CallF) (t4 : Value) (H : Heap) (Q : Value → Heap → Prop) : w17_15 tb nv t4 H Q = (
    atK (Q t4 H)) := by kernel_rfl

end Go.Proofs.Ytfflfehfjgkcdaa.D
