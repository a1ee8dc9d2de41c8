/- The compiled functions of the seat, as the machine "D" runs them, and what each comes to (written by a program). No statement of the seat is proved in this text. -/
import Derived.Test.YtolmfeknhoiepaaGreatDoorDz
import Derived.Test.YtolmfeknhoiepaaGreatDoorProg
set_option maxRecDepth 100000
set_option linter.unusedVariables false
namespace Go.Proofs.YtolmfeknhoiepaaGreatDoor.D
open Go
/-- (*tompion/oplog.Log).From -/
def c39_12 : C := .ret
def c39_11 : C := (.keep [6] c39_12)
def c39_10 : C := (.seq (.region [
      ⟨(some 34), (.pure .mov), [.t 6], none⟩,
      ⟨(some 6), (.pure .mov), [.t 34], none⟩] false) c39_11)
def c39_1 : C := (.keep [6] c39_10)
def c39_9 : C := .skip
def c39_4 : C := (.keep [0, 2, 6, 7] c39_9)
def c39_8 : C := (.region [
      ⟨(some 20), (.pure .mov), [.t 7], none⟩,
      ⟨(some 21), (.pure (.bin .add)), [.t 20, .c (.int .i64 (Int.ofNat 1))], none⟩,
      ⟨(some 7), (.pure .mov), [.t 21], none⟩] false)
def c39_5 : C := (.seq (.block 1 (.region [
      ⟨(some 22), (.pure .mov), [.t 6], none⟩,
      ⟨(some 23), (.pure .mov), [.t 0], none⟩,
      ⟨(some 24), (.pure .nilchk), [.t 23], none⟩,
      ⟨(some 25), (.pure (.fadd 1)), [.t 24], none⟩,
      ⟨(some 26), (.read (.load 1 false) []), [.t 25], none⟩,
      ⟨(some 27), (.pure .mov), [.t 7], none⟩,
      ⟨(some 28), (.pure (.bin .sub)), [.t 27, .c (.int .i64 (Int.ofNat 1))], none⟩,
      ⟨(some 29), (.pure (.iaddS 19)), [.t 26, .t 28], none⟩,
      ⟨(some 30), (.pure (.fadd 0)), [.t 29], none⟩,
      ⟨(some 31), (.read (.load 10 true) []), [.t 30], none⟩,
      ⟨(some 32), (.alloc (.bslice [(.int .i64 (Int.ofNat 0)), (.int .i64 (Int.ofNat 0)), (.int .i64 (Int.ofNat 0)), (.int .i64 (Int.ofNat 0)), (.int .i64 (Int.ofNat 0)), (.int .i64 (Int.ofNat 0)), (.int .i64 (Int.ofNat 0)), (.int .i64 (Int.ofNat 0)), (.int .i64 (Int.ofNat 0)), (.string ⟨⟨[]⟩⟩)] [(0, 10)] 10 1)), [.t 31], none⟩,
      ⟨(some 33), (.eff (.app 10 88)), [.t 22, .t 32], none⟩,
      ⟨(some 6), (.pure .mov), [.t 33], none⟩] false)) c39_8)
def c39_7 : C := (.exit 0)
def c39_6 : C := (.cond (.t 19) .skip
    (.keep [6] c39_7))
def c39_3 : C := (.seq (.seq (.seq (.region [
      ⟨(some 10), (.pure .mov), [.t 7], none⟩,
      ⟨(some 11), (.pure .mov), [.t 0], none⟩,
      ⟨(some 12), (.call 31), [.t 11], none⟩,
      ⟨(some 13), (.pure (.bin .leq)), [.t 10, .t 12], none⟩,
      ⟨(some 14), (.pure .mov), [.t 13], none⟩,
      ⟨(some 15), (.pure .mov), [.t 6], (some (14, true))⟩,
      ⟨(some 16), (.pure .lenS), [.t 15], (some (14, true))⟩,
      ⟨(some 17), (.pure .mov), [.t 2], (some (14, true))⟩,
      ⟨(some 18), (.pure (.bin .lss)), [.t 16, .t 17], (some (14, true))⟩,
      ⟨(some 19), (.pure .pick), [.t 14, .t 18, .c (.bool false)], none⟩] false) c39_6) c39_5) c39_4)
def c39_2 : C := (.block 0 (.loop (some [0, 2, 6, 7]) c39_3))
def c39_0 : C := (.seq (.seq (.region [
      ⟨(some 8), (.pure .mov), [.t 1], none⟩,
      ⟨(some 9), (.pure .max), [.t 8, .c (.int .i64 (Int.ofNat 1))], none⟩,
      ⟨(some 7), (.pure .mov), [.t 9], none⟩] false) c39_2) c39_1)
def k39 : DFn := ⟨35, (.seq (.region [
      ⟨(some 6), (.pure .mov), [.c (.slice none 0 0)], none⟩] false) c39_0), [.tmp 6]⟩
theorem c39 : (match Tryz.prog.funcs[39]? with | some fn => compileFn Tryz.prog 4 [none, some [6], none, some [0, 2, 6, 7], none, none, some [6], none, none, some [6]] fn | none => none) = some k39 := by kernel_rfl
def q39_0 (tb : Nat → Option DFn) (nv : CallF) (Q : Value → Heap → Prop) : Kont := kSeq (fun wf H => wC tb nv c39_1 wf H (kFn [.tmp 6] Q)) (kFn [.tmp 6] Q)
def q39_1 (tb : Nat → Option DFn) (nv : CallF) (Q : Value → Heap → Prop) : Kont := kBlk 0 (q39_0 tb nv Q)
def w39_10 (tb : Nat → Option DFn) (nv : CallF) (t6 : Value) (H : Heap) (Q : Value → Heap → Prop) : Prop := wC tb nv c39_10 (mkW [(6, t6)]) H (kFn [.tmp 6] Q)
theorem e39 (tb : Nat → Option DFn) (nv : CallF) (a0 a1 a2 : Value) (H : Heap) (Q : Value → Heap → Prop) : wFn tb nv k39 [a0, a1, a2] H Q = (
    wP .max [a1, (.int .i64 1)] fun x0 =>
    wLoop tb nv c39_3 [0, 2, 6, 7] (mkW [(0, a0), (2, a2), (6, (.slice none 0 0)), (7, x0)]) H (q39_1 tb nv Q)) := by kernel_rfl
theorem l39_3 (tb : Nat → Option DFn) (nv : CallF) (t0 t2 t6 t7 : Value) (H : Heap) (K : Kont) : wC tb nv c39_3 (mkW [(0, t0), (2, t2), (6, t6), (7, t7)]) H K = (
    Ev tb nv 31 [t0] H fun x1 H2 =>
    wP (.bin .leq) [t7, x1] fun x3 =>
    asB x3 fun b4 => onB b4 (wP .lenS [t6] fun x5 =>
    wP (.bin .lss) [x5, t2] fun x6 =>
    asB x6 fun b7 => onB b7 (wP .nilchk [t0] fun x8 =>
    wP (.fadd 1) [x8] fun x9 =>
    wR (.load 1 false) [x9] H2 fun x10 =>
    wP (.bin .sub) [t7, (.int .i64 1)] fun x11 =>
    wP (.iaddS 19) [x10, x11] fun x12 =>
    wP (.fadd 0) [x12] fun x13 =>
    wR (.load 10 true) [x13] H2 fun x14 =>
    wA (.bslice [(.int .i64 0), (.int .i64 0), (.int .i64 0), (.int .i64 0), (.int .i64 0), (.int .i64 0), (.int .i64 0), (.int .i64 0), (.int .i64 0), (.string ⟨⟨[]⟩⟩)] [(0, 10)] 10 1) [x14] H2 fun x15 H16 =>
    wE (.app 10 88) [t6, x15] H16 fun x17 H18 =>
    wP (.bin .add) [t7, (.int .i64 1)] fun x19 =>
    atK (K .normal (mkW [(0, t0), (2, t2), (6, x17), (7, x19)]) H18))
    (atK (K (.exit 0) (mkW [(6, t6)]) H2)))
    (atK (K (.exit 0) (mkW [(6, t6)]) H2))) := by kernel_rfl
theorem x39_3_0 (tb : Nat → Option DFn) (nv : CallF) (t6 : Value) (H : Heap) (Q : Value → Heap → Prop) : (q39_1 tb nv Q) (.exit 0) (mkW [(6, t6)]) H = (
    atK (w39_10 tb nv t6 H Q)) := by kernel_rfl
theorem e39_10 (tb : Nat → Option DFn) (nv : CallF) (t6 : Value) (H : Heap) (Q : Value → Heap → Prop) : w39_10 tb nv t6 H Q = (
    atK (Q t6 H)) := by kernel_rfl

/-- (*tompion/oplog.Log).Timers -/
def c40_6 : C := .ret
def c40_5 : C := (.keep [2] c40_6)
def c40_1 : C := (.seq (.region [
      ⟨(some 5), (.pure .mov), [.t 0], none⟩,
      ⟨(some 6), (.pure .nilchk), [.t 5], none⟩,
      ⟨(some 7), (.pure (.fadd 0)), [.t 6], none⟩,
      ⟨(some 8), (.read (.load 1 false) []), [.t 7], none⟩,
      ⟨(some 9), (.call 64), [.t 8], none⟩,
      ⟨(some 2), (.pure .mov), [.t 9], none⟩] false) c40_5)
def c40_4 : C := .ret
def c40_3 : C := (.keep [2] c40_4)
def c40_2 : C := (.cond (.t 4) (.seq (.region [
      ⟨(some 2), (.pure .mov), [.c (.slice none 0 0)], none⟩] false) c40_3)
    .skip)
def c40_0 : C := (.seq (.seq (.region [
      ⟨(some 3), (.pure .mov), [.t 0], none⟩,
      ⟨(some 4), (.pure (.nilEq false .ptr)), [.t 3], none⟩] false) c40_2) c40_1)
def k40 : DFn := ⟨10, (.seq (.region [
      ⟨(some 2), (.pure .mov), [.c (.slice none 0 0)], none⟩] false) c40_0), [.tmp 2]⟩
theorem c40 : (match Tryz.prog.funcs[40]? with | some fn => compileFn Tryz.prog 4 [none, none, none, none, some [2], none, some [2]] fn | none => none) = some k40 := by kernel_rfl
theorem e40 (tb : Nat → Option DFn) (nv : CallF) (a0 : Value) (H : Heap) (Q : Value → Heap → Prop) : wFn tb nv k40 [a0] H Q = (
    wP (.nilEq false .ptr) [a0] fun x0 =>
    asB x0 fun b1 => onB b1 (atK (Q (.slice none 0 0) H))
    (wP .nilchk [a0] fun x2 =>
    wP (.fadd 0) [x2] fun x3 =>
    wR (.load 1 false) [x3] H fun x4 =>
    Ev tb nv 64 [x4] H fun x5 H6 =>
    atK (Q x5 H6))) := by kernel_rfl

/-- tompion/state.New -/
def c53_2 : C := .ret
def c53_1 : C := (.keep [2] c53_2)
def c53_0 : C := (.seq (.region [
      ⟨(some 3), (.pure .mov), [.t 0], none⟩,
      ⟨(some 4), (.pure .max), [.t 3, .c (.int .i64 (Int.ofNat 1))], none⟩,
      ⟨(some 5), (.pure .min), [.t 4, .c (.int .i64 (Int.ofNat 16))], none⟩,
      ⟨(some 6), (.alloc .mkmap), [], none⟩,
      ⟨(some 7), (.call 75), [], none⟩,
      ⟨(some 8), (.pure (.build [(.int .i64 (Int.ofNat 0)), (.int .i64 (Int.ofNat 0)), (.map none), (.slice none 0 0), (.pointer none)] [(0, 1), (2, 1), (4, 1)])), [.t 5, .t 6, .t 7], none⟩,
      ⟨(some 9), (.alloc .box), [.t 8], none⟩,
      ⟨(some 2), (.pure .mov), [.t 9], none⟩] false) c53_1)
def k53 : DFn := ⟨10, (.seq (.region [
      ⟨(some 2), (.pure .mov), [.c (.pointer none)], none⟩] false) c53_0), [.tmp 2]⟩
theorem c53 : (match Tryz.prog.funcs[53]? with | some fn => compileFn Tryz.prog 4 [none, none, some [2]] fn | none => none) = some k53 := by kernel_rfl


/-- tompion/wheel.New -/
def c54_2 : C := .ret
def c54_1 : C := (.keep [2] c54_2)
def c54_0 : C := (.seq (.region [
      ⟨(some 3), (.pure .mov), [.t 0], none⟩,
      ⟨(some 4), (.pure .max), [.t 3, .c (.int .i64 (Int.ofNat 0))], none⟩,
      ⟨(some 5), (.pure .min), [.t 4, .c (.int .i64 (Int.ofNat 1099511627776))], none⟩,
      ⟨(some 6), (.alloc .mkmap), [], none⟩,
      ⟨(some 7), (.pure (.build [(.int .i64 (Int.ofNat 0)), (.map none), (.int .u64 (Int.ofNat 0)), (.slice none 0 0), (.slice none 0 0), (.slice none 0 0), (.slice none 0 0), (.slice none 0 0), (.slice none 0 0), (.slice none 0 0), (.slice none 0 0), (.slice none 0 0), (.slice none 0 0), (.slice none 0 0), (.slice none 0 0), (.slice none 0 0), (.slice none 0 0), (.slice none 0 0), (.slice none 0 0), (.slice none 0 0), (.slice none 0 0), (.slice none 0 0), (.slice none 0 0), (.slice none 0 0), (.slice none 0 0), (.slice none 0 0), (.slice none 0 0), (.slice none 0 0), (.slice none 0 0), (.slice none 0 0), (.slice none 0 0), (.slice none 0 0), (.slice none 0 0), (.slice none 0 0), (.slice none 0 0), (.slice none 0 0), (.slice none 0 0), (.slice none 0 0), (.slice none 0 0), (.slice none 0 0), (.slice none 0 0), (.slice none 0 0), (.slice none 0 0), (.slice none 0 0), (.slice none 0 0), (.slice none 0 0), (.slice none 0 0), (.slice none 0 0), (.slice none 0 0), (.slice none 0 0), (.slice none 0 0), (.slice none 0 0), (.slice none 0 0), (.slice none 0 0), (.slice none 0 0), (.slice none 0 0), (.slice none 0 0), (.slice none 0 0), (.slice none 0 0), (.slice none 0 0), (.slice none 0 0), (.slice none 0 0), (.slice none 0 0), (.slice none 0 0), (.slice none 0 0), (.slice none 0 0), (.slice none 0 0), (.int .u64 (Int.ofNat 0)), (.slice none 0 0), (.slice none 0 0), (.slice none 0 0), (.slice none 0 0), (.slice none 0 0), (.slice none 0 0), (.slice none 0 0), (.slice none 0 0), (.slice none 0 0), (.slice none 0 0), (.slice none 0 0), (.slice none 0 0), (.slice none 0 0), (.slice none 0 0), (.slice none 0 0), (.slice none 0 0), (.slice none 0 0), (.slice none 0 0), (.slice none 0 0), (.slice none 0 0), (.slice none 0 0), (.slice none 0 0), (.slice none 0 0), (.slice none 0 0), (.slice none 0 0), (.slice none 0 0), (.slice none 0 0), (.slice none 0 0), (.slice none 0 0), (.slice none 0 0), (.slice none 0 0), (.slice none 0 0), (.slice none 0 0), (.slice none 0 0), (.slice none 0 0), (.slice none 0 0), (.slice none 0 0), (.slice none 0 0), (.slice none 0 0), (.slice none 0 0), (.slice none 0 0), (.slice none 0 0), (.slice none 0 0), (.slice none 0 0), (.slice none 0 0), (.slice none 0 0), (.slice none 0 0), (.slice none 0 0), (.slice none 0 0), (.slice none 0 0), (.slice none 0 0), (.slice none 0 0), (.slice none 0 0), (.slice none 0 0), (.slice none 0 0), (.slice none 0 0), (.slice none 0 0), (.slice none 0 0), (.slice none 0 0), (.slice none 0 0), (.slice none 0 0), (.slice none 0 0), (.slice none 0 0), (.slice none 0 0), (.int .u64 (Int.ofNat 0)), (.slice none 0 0), (.slice none 0 0), (.slice none 0 0), (.slice none 0 0), (.slice none 0 0), (.slice none 0 0), (.slice none 0 0), (.slice none 0 0), (.slice none 0 0), (.slice none 0 0), (.slice none 0 0), (.slice none 0 0), (.slice none 0 0), (.slice none 0 0), (.slice none 0 0), (.slice none 0 0), (.slice none 0 0), (.slice none 0 0), (.slice none 0 0), (.slice none 0 0), (.slice none 0 0), (.slice none 0 0), (.slice none 0 0), (.slice none 0 0), (.slice none 0 0), (.slice none 0 0), (.slice none 0 0), (.slice none 0 0), (.slice none 0 0), (.slice none 0 0), (.slice none 0 0), (.slice none 0 0), (.slice none 0 0), (.slice none 0 0), (.slice none 0 0), (.slice none 0 0), (.slice none 0 0), (.slice none 0 0), (.slice none 0 0), (.slice none 0 0), (.slice none 0 0), (.slice none 0 0), (.slice none 0 0), (.slice none 0 0), (.slice none 0 0), (.slice none 0 0), (.slice none 0 0), (.slice none 0 0), (.slice none 0 0), (.slice none 0 0), (.slice none 0 0), (.slice none 0 0), (.slice none 0 0), (.slice none 0 0), (.slice none 0 0), (.slice none 0 0), (.slice none 0 0), (.slice none 0 0), (.slice none 0 0), (.slice none 0 0), (.slice none 0 0), (.slice none 0 0), (.slice none 0 0), (.slice none 0 0), (.int .u64 (Int.ofNat 0)), (.slice none 0 0), (.slice none 0 0), (.slice none 0 0), (.slice none 0 0), (.slice none 0 0), (.slice none 0 0), (.slice none 0 0), (.slice none 0 0), (.slice none 0 0), (.slice none 0 0), (.slice none 0 0), (.slice none 0 0), (.slice none 0 0), (.slice none 0 0), (.slice none 0 0), (.slice none 0 0), (.slice none 0 0), (.slice none 0 0), (.slice none 0 0), (.slice none 0 0), (.slice none 0 0), (.slice none 0 0), (.slice none 0 0), (.slice none 0 0), (.slice none 0 0), (.slice none 0 0), (.slice none 0 0), (.slice none 0 0), (.slice none 0 0), (.slice none 0 0), (.slice none 0 0), (.slice none 0 0), (.slice none 0 0), (.slice none 0 0), (.slice none 0 0), (.slice none 0 0), (.slice none 0 0), (.slice none 0 0), (.slice none 0 0), (.slice none 0 0), (.slice none 0 0), (.slice none 0 0), (.slice none 0 0), (.slice none 0 0), (.slice none 0 0), (.slice none 0 0), (.slice none 0 0), (.slice none 0 0), (.slice none 0 0), (.slice none 0 0), (.slice none 0 0), (.slice none 0 0), (.slice none 0 0), (.slice none 0 0), (.slice none 0 0), (.slice none 0 0), (.slice none 0 0), (.slice none 0 0), (.slice none 0 0), (.slice none 0 0), (.slice none 0 0), (.slice none 0 0), (.slice none 0 0), (.slice none 0 0), (.int .u64 (Int.ofNat 0)), (.slice none 0 0), (.slice none 0 0), (.slice none 0 0), (.slice none 0 0), (.slice none 0 0), (.slice none 0 0), (.slice none 0 0), (.slice none 0 0), (.slice none 0 0), (.slice none 0 0), (.slice none 0 0), (.slice none 0 0), (.slice none 0 0), (.slice none 0 0), (.slice none 0 0), (.slice none 0 0), (.slice none 0 0), (.slice none 0 0), (.slice none 0 0), (.slice none 0 0), (.slice none 0 0), (.slice none 0 0), (.slice none 0 0), (.slice none 0 0), (.slice none 0 0), (.slice none 0 0), (.slice none 0 0), (.slice none 0 0), (.slice none 0 0), (.slice none 0 0), (.slice none 0 0), (.slice none 0 0), (.slice none 0 0), (.slice none 0 0), (.slice none 0 0), (.slice none 0 0), (.slice none 0 0), (.slice none 0 0), (.slice none 0 0), (.slice none 0 0), (.slice none 0 0), (.slice none 0 0), (.slice none 0 0), (.slice none 0 0), (.slice none 0 0), (.slice none 0 0), (.slice none 0 0), (.slice none 0 0), (.slice none 0 0), (.slice none 0 0), (.slice none 0 0), (.slice none 0 0), (.slice none 0 0), (.slice none 0 0), (.slice none 0 0), (.slice none 0 0), (.slice none 0 0), (.slice none 0 0), (.slice none 0 0), (.slice none 0 0), (.slice none 0 0), (.slice none 0 0), (.slice none 0 0), (.slice none 0 0), (.int .u64 (Int.ofNat 0)), (.slice none 0 0), (.slice none 0 0), (.slice none 0 0), (.slice none 0 0), (.slice none 0 0), (.slice none 0 0), (.slice none 0 0), (.slice none 0 0), (.slice none 0 0), (.slice none 0 0), (.slice none 0 0), (.slice none 0 0), (.slice none 0 0), (.slice none 0 0), (.slice none 0 0), (.slice none 0 0), (.slice none 0 0), (.slice none 0 0), (.slice none 0 0), (.slice none 0 0), (.slice none 0 0), (.slice none 0 0), (.slice none 0 0), (.slice none 0 0), (.slice none 0 0), (.slice none 0 0), (.slice none 0 0), (.slice none 0 0), (.slice none 0 0), (.slice none 0 0), (.slice none 0 0), (.slice none 0 0), (.slice none 0 0), (.slice none 0 0), (.slice none 0 0), (.slice none 0 0), (.slice none 0 0), (.slice none 0 0), (.slice none 0 0), (.slice none 0 0), (.slice none 0 0), (.slice none 0 0), (.slice none 0 0), (.slice none 0 0), (.slice none 0 0), (.slice none 0 0), (.slice none 0 0), (.slice none 0 0), (.slice none 0 0), (.slice none 0 0), (.slice none 0 0), (.slice none 0 0), (.slice none 0 0), (.slice none 0 0), (.slice none 0 0), (.slice none 0 0), (.slice none 0 0), (.slice none 0 0), (.slice none 0 0), (.slice none 0 0), (.slice none 0 0), (.slice none 0 0), (.slice none 0 0), (.slice none 0 0), (.slice none 0 0), (.slice none 0 0)] [(0, 1), (1, 1)])), [.t 5, .t 6], none⟩,
      ⟨(some 8), (.alloc .box), [.t 7], none⟩,
      ⟨(some 2), (.pure .mov), [.t 8], none⟩] false) c54_1)
def k54 : DFn := ⟨9, (.seq (.region [
      ⟨(some 2), (.pure .mov), [.c (.pointer none)], none⟩] false) c54_0), [.tmp 2]⟩
theorem c54 : (match Tryz.prog.funcs[54]? with | some fn => compileFn Tryz.prog 4 [none, none, some [2]] fn | none => none) = some k54 := by kernel_rfl


/-- (*tompion/oplog.Log).did -/
def c55_7 : C := .ret
def c55_6 : C := (.keep [4] c55_7)
def c55_5 : C := (.seq (.region [
      ⟨(some 26), (.pure .mov), [.t 7], none⟩,
      ⟨(some 27), (.pure (.un .not)), [.t 26], none⟩,
      ⟨(some 28), (.pure .mov), [.t 27], none⟩,
      ⟨(some 29), (.pure .mov), [.t 5], (some (28, false))⟩,
      ⟨(some 30), (.pure .mov), [.t 1], (some (28, false))⟩,
      ⟨(some 31), (.pure .nilchk), [.t 30], (some (28, false))⟩,
      ⟨(some 32), (.pure (.fadd 2)), [.t 31], (some (28, false))⟩,
      ⟨(some 33), (.read (.load 1 false) []), [.t 32], (some (28, false))⟩,
      ⟨(some 34), (.pure (.bin .lss)), [.t 29, .t 33], (some (28, false))⟩,
      ⟨(some 35), (.pure .pick), [.t 28, .c (.bool true), .t 34], none⟩,
      ⟨(some 4), (.pure .mov), [.t 35], none⟩] false) c55_6)
def c55_1 : C := (.seq (.region [
      ⟨(some 14), (.pure .mov), [.t 0], none⟩,
      ⟨(some 15), (.pure .nilchk), [.t 14], none⟩,
      ⟨(some 16), (.pure (.fadd 0)), [.t 15], none⟩,
      ⟨(some 17), (.read (.load 1 false) []), [.t 16], none⟩,
      ⟨(some 18), (.pure .mov), [.t 1], none⟩,
      ⟨(some 19), (.pure .nilchk), [.t 18], none⟩,
      ⟨(some 20), (.pure (.fadd 1)), [.t 19], none⟩,
      ⟨(some 21), (.read (.load 1 false) []), [.t 20], none⟩,
      ⟨(some 22), (.call 76), [.t 17, .t 21], none⟩,
      ⟨(some 13), (.pure .mov), [.t 22], none⟩,
      ⟨(some 23), (.pure (.extract 0)), [.t 13], none⟩,
      ⟨(some 24), (.pure (.extract 1)), [.t 13], none⟩,
      ⟨(some 25), (.pure (.extract 2)), [.t 13], none⟩,
      ⟨(some 6), (.alloc (.alloc [(.int .i64 (Int.ofNat 0)), (.int .i64 (Int.ofNat 0)), (.int .i64 (Int.ofNat 0))])), [], none⟩,
      ⟨(some 5), (.pure .mov), [.t 23], none⟩,
      ⟨none, (.eff (.store 3)), [.t 6, .t 24], none⟩,
      ⟨(some 7), (.pure .mov), [.t 25], none⟩] false) c55_5)
def c55_4 : C := .ret
def c55_3 : C := (.keep [4] c55_4)
def c55_2 : C := (.cond (.t 12) (.seq (.region [
      ⟨(some 4), (.pure .mov), [.c (.bool true)], none⟩] false) c55_3)
    .skip)
def c55_0 : C := (.seq (.seq (.region [
      ⟨(some 8), (.pure .mov), [.t 1], none⟩,
      ⟨(some 9), (.pure .nilchk), [.t 8], none⟩,
      ⟨(some 10), (.pure (.fadd 0)), [.t 9], none⟩,
      ⟨(some 11), (.read (.load 1 false) []), [.t 10], none⟩,
      ⟨(some 12), (.pure (.bin .eql)), [.t 11, .c (.int .i64 (Int.ofNat 3))], none⟩] false) c55_2) c55_1)
def k55 : DFn := ⟨36, (.seq (.region [
      ⟨(some 4), (.pure .mov), [.c (.bool false)], none⟩] false) c55_0), [.tmp 4]⟩
theorem c55 : (match Tryz.prog.funcs[55]? with | some fn => compileFn Tryz.prog 4 [none, none, none, none, some [4], none, none, some [4]] fn | none => none) = some k55 := by kernel_rfl


/-- (*tompion/state.State).Get -/
def c56_11 : C := .ret
def c56_10 : C := (.keep [4, 5] c56_11)
def c56_5 : C := (.seq (.region [
      ⟨(some 22), (.pure (.build [(.int .i64 (Int.ofNat 0)), (.int .i64 (Int.ofNat 0)), (.int .i64 (Int.ofNat 0)), (.int .i64 (Int.ofNat 0)), (.string ⟨⟨[]⟩⟩)] [])), [], none⟩,
      ⟨none, (.eff (.store 5)), [.t 4, .t 22], none⟩,
      ⟨(some 5), (.pure .mov), [.c (.int .i64 (Int.ofNat 6))], none⟩] false) c56_10)
def c56_9 : C := .ret
def c56_8 : C := (.keep [4, 5] c56_9)
def c56_7 : C := (.cond (.t 20) (.seq (.region [
      ⟨(some 21), (.read (.load 5 true) []), [.t 6], none⟩,
      ⟨none, (.eff (.store 5)), [.t 4, .t 21], none⟩,
      ⟨(some 5), (.pure .mov), [.c (.int .i64 (Int.ofNat 0))], none⟩] false) c56_8)
    .skip)
def c56_6 : C := (.seq (.region [
      ⟨(some 20), (.pure .mov), [.t 7], none⟩] false) c56_7)
def c56_1 : C := (.seq (.seq (.region [
      ⟨(some 12), (.pure .mov), [.t 0], none⟩,
      ⟨(some 13), (.pure .nilchk), [.t 12], none⟩,
      ⟨(some 14), (.pure (.fadd 2)), [.t 13], none⟩,
      ⟨(some 15), (.read (.load 1 false) []), [.t 14], none⟩,
      ⟨(some 16), (.pure .mov), [.t 1], none⟩,
      ⟨(some 17), (.read (.lookup (.one .i) (.agg ⟨[(.int .i64 (Int.ofNat 0)), (.int .i64 (Int.ofNat 0)), (.int .i64 (Int.ofNat 0)), (.int .i64 (Int.ofNat 0)), (.string ⟨⟨[]⟩⟩)]⟩) true) []), [.t 15, .t 16], none⟩,
      ⟨(some 11), (.pure .mov), [.t 17], none⟩,
      ⟨(some 18), (.pure (.extract 0)), [.t 11], none⟩,
      ⟨(some 19), (.pure (.extract 1)), [.t 11], none⟩,
      ⟨(some 6), (.alloc (.alloc [(.int .i64 (Int.ofNat 0)), (.int .i64 (Int.ofNat 0)), (.int .i64 (Int.ofNat 0)), (.int .i64 (Int.ofNat 0)), (.string ⟨⟨[]⟩⟩)])), [], none⟩,
      ⟨none, (.eff (.store 5)), [.t 6, .t 18], none⟩,
      ⟨(some 7), (.pure .mov), [.t 19], none⟩] false) c56_6) c56_5)
def c56_4 : C := .ret
def c56_3 : C := (.keep [4, 5] c56_4)
def c56_2 : C := (.cond (.t 9) (.seq (.region [
      ⟨(some 10), (.pure (.build [(.int .i64 (Int.ofNat 0)), (.int .i64 (Int.ofNat 0)), (.int .i64 (Int.ofNat 0)), (.int .i64 (Int.ofNat 0)), (.string ⟨⟨[]⟩⟩)] [])), [], none⟩,
      ⟨none, (.eff (.store 5)), [.t 4, .t 10], none⟩,
      ⟨(some 5), (.pure .mov), [.c (.int .i64 (Int.ofNat 12))], none⟩] false) c56_3)
    .skip)
def c56_0 : C := (.seq (.seq (.region [
      ⟨(some 8), (.pure .mov), [.t 0], none⟩,
      ⟨(some 9), (.pure (.nilEq false .ptr)), [.t 8], none⟩] false) c56_2) c56_1)
def k56 : DFn := ⟨23, (.seq (.region [
      ⟨(some 4), (.alloc (.alloc [(.int .i64 (Int.ofNat 0)), (.int .i64 (Int.ofNat 0)), (.int .i64 (Int.ofNat 0)), (.int .i64 (Int.ofNat 0)), (.string ⟨⟨[]⟩⟩)])), [], none⟩,
      ⟨(some 5), (.pure .mov), [.c (.int .i64 (Int.ofNat 0))], none⟩] false) c56_0), [.cell 4 5 true, .tmp 5]⟩
theorem c56 : (match Tryz.prog.funcs[56]? with | some fn => compileFn Tryz.prog 4 [none, none, none, none, some [4, 5], none, none, none, none, some [4, 5], none, some [4, 5]] fn | none => none) = some k56 := by kernel_rfl


/-- (*tompion/state.State).Apply -/
def c57_17 : C := .ret
def c57_16 : C := (.keep [4] c57_17)
def c57_5 : C := (.seq (.region [
      ⟨(some 26), (.pure (.build [(.int .i64 (Int.ofNat 0)), (.int .i64 (Int.ofNat 0)), (.int .i64 (Int.ofNat 0))] [(0, 1)])), [.c (.int .i64 (Int.ofNat 1))], none⟩,
      ⟨none, (.eff (.store 3)), [.t 4, .t 26], none⟩] false) c57_16)
def c57_9 : C := .ret
def c57_8 : C := (.keep [4] c57_9)
def c57_12 : C := .ret
def c57_11 : C := (.keep [4] c57_12)
def c57_15 : C := .ret
def c57_14 : C := (.keep [4] c57_15)
def c57_13 : C := (.cond (.t 22) (.seq (.region [
      ⟨(some 24), (.pure .mov), [.t 0], none⟩,
      ⟨(some 25), (.call 80), [.t 24, .t 3], none⟩,
      ⟨none, (.eff (.store 3)), [.t 4, .t 25], none⟩] false) c57_14)
    .skip)
def c57_10 : C := (.cond (.t 16) (.seq (.region [
      ⟨(some 18), (.pure .mov), [.t 0], none⟩,
      ⟨(some 19), (.pure .mov), [.t 0], none⟩,
      ⟨(some 20), (.pure (.func (.func 79) 1)), [.t 19], none⟩,
      ⟨(some 21), (.call 77), [.t 18, .t 3, .t 20], none⟩,
      ⟨none, (.eff (.store 3)), [.t 4, .t 21], none⟩] false) c57_11)
    (.seq (.region [
      ⟨(some 23), (.pure (.bin .eql)), [.t 9, .c (.int .i64 (Int.ofNat 3))], none⟩,
      ⟨(some 22), (.pure .mov), [.t 23], none⟩] false) c57_13))
def c57_7 : C := (.cond (.t 10) (.seq (.region [
      ⟨(some 12), (.pure .mov), [.t 0], none⟩,
      ⟨(some 13), (.pure .mov), [.t 0], none⟩,
      ⟨(some 14), (.pure (.func (.func 78) 1)), [.t 13], none⟩,
      ⟨(some 15), (.call 77), [.t 12, .t 3, .t 14], none⟩,
      ⟨none, (.eff (.store 3)), [.t 4, .t 15], none⟩] false) c57_8)
    (.seq (.region [
      ⟨(some 17), (.pure (.bin .eql)), [.t 9, .c (.int .i64 (Int.ofNat 2))], none⟩,
      ⟨(some 16), (.pure .mov), [.t 17], none⟩] false) c57_10))
def c57_6 : C := (.block 0 (.seq (.region [
      ⟨(some 11), (.pure (.bin .eql)), [.t 9, .c (.int .i64 (Int.ofNat 1))], none⟩,
      ⟨(some 10), (.pure .mov), [.t 11], none⟩] false) c57_7))
def c57_1 : C := (.seq (.seq (.region [
      ⟨(some 8), (.pure (.fadd 0)), [.t 3], none⟩,
      ⟨(some 9), (.read (.load 1 false) []), [.t 8], none⟩] false) c57_6) c57_5)
def c57_4 : C := .ret
def c57_3 : C := (.keep [4] c57_4)
def c57_2 : C := (.cond (.t 6) (.seq (.region [
      ⟨(some 7), (.pure (.build [(.int .i64 (Int.ofNat 0)), (.int .i64 (Int.ofNat 0)), (.int .i64 (Int.ofNat 0))] [(0, 1)])), [.c (.int .i64 (Int.ofNat 12))], none⟩,
      ⟨none, (.eff (.store 3)), [.t 4, .t 7], none⟩] false) c57_3)
    .skip)
def c57_0 : C := (.seq (.seq (.region [
      ⟨(some 5), (.pure .mov), [.t 0], none⟩,
      ⟨(some 6), (.pure (.nilEq false .ptr)), [.t 5], none⟩] false) c57_2) c57_1)
def k57 : DFn := ⟨27, (.seq (.region [
      ⟨(some 3), (.alloc .box), [.t 1], none⟩,
      ⟨(some 4), (.alloc (.alloc [(.int .i64 (Int.ofNat 0)), (.int .i64 (Int.ofNat 0)), (.int .i64 (Int.ofNat 0))])), [], none⟩] false) c57_0), [.cell 4 3 true]⟩
theorem c57 : (match Tryz.prog.funcs[57]? with | some fn => compileFn Tryz.prog 4 [none, none, none, none, some [4], none, none, none, none, some [4], none, none, some [4], none, none, some [4], none, some [4]] fn | none => none) = some k57 := by kernel_rfl


/-- (*tompion/oplog.Log).note -/
def c58_3 : C := (.cond (.t 47) (.region [
      ⟨(some 48), (.pure .mov), [.t 0], none⟩,
      ⟨(some 49), (.pure .nilchk), [.t 48], none⟩,
      ⟨(some 50), (.pure (.fadd 4)), [.t 49], none⟩,
      ⟨(some 51), (.read (.load 1 false) []), [.t 50], none⟩,
      ⟨(some 52), (.pure .mov), [.t 2], none⟩,
      ⟨(some 53), (.pure (.fadd 3)), [.t 6], none⟩,
      ⟨(some 54), (.read (.load 1 false) []), [.t 53], none⟩,
      ⟨(some 55), (.call 82), [.t 51, .t 52, .t 54], none⟩] false)
    .skip)
def c58_2 : C := (.seq (.region [
      ⟨(some 41), (.pure .mov), [.t 7], none⟩,
      ⟨(some 42), (.pure (.bin .eql)), [.t 41, .c (.int .i64 (Int.ofNat 0))], none⟩,
      ⟨(some 43), (.pure .mov), [.t 42], none⟩,
      ⟨(some 44), (.pure (.fadd 3)), [.t 6], (some (43, true))⟩,
      ⟨(some 45), (.read (.load 1 false) []), [.t 44], (some (43, true))⟩,
      ⟨(some 46), (.pure (.bin .gtr)), [.t 45, .c (.int .i64 (Int.ofNat 0))], (some (43, true))⟩,
      ⟨(some 47), (.pure .pick), [.t 43, .t 46, .c (.bool false)], none⟩] false) c58_3)
def c58_1 : C := (.seq (.region [
      ⟨(some 35), (.pure .mov), [.t 0], none⟩,
      ⟨(some 36), (.pure .nilchk), [.t 35], none⟩,
      ⟨(some 37), (.pure (.fadd 4)), [.t 36], none⟩,
      ⟨(some 38), (.read (.load 1 false) []), [.t 37], none⟩,
      ⟨(some 39), (.pure .mov), [.t 2], none⟩,
      ⟨(some 40), (.call 81), [.t 38, .t 39], none⟩] false) c58_2)
def c58_0 : C := (.seq (.region [
      ⟨(some 17), (.pure .mov), [.t 0], none⟩,
      ⟨(some 18), (.pure .nilchk), [.t 17], none⟩,
      ⟨(some 19), (.pure (.fadd 2)), [.t 18], none⟩,
      ⟨(some 20), (.read (.load 1 false) [18]), [.t 19], none⟩,
      ⟨(some 21), (.pure .mov), [.t 2], none⟩,
      ⟨(some 22), (.pure .mov), [.t 0], none⟩,
      ⟨(some 23), (.pure .nilchk), [.t 22], none⟩,
      ⟨(some 24), (.pure (.fadd 2)), [.t 23], none⟩,
      ⟨(some 25), (.read (.load 1 false) []), [.t 24], none⟩,
      ⟨(some 26), (.pure .mov), [.t 2], none⟩,
      ⟨(some 27), (.read (.lookup (.one .i) (.slice none 0 0) false) []), [.t 25, .t 26], none⟩,
      ⟨(some 28), (.pure .mov), [.t 1], none⟩,
      ⟨(some 29), (.pure .mov), [.t 7], none⟩,
      ⟨(some 30), (.pure (.bin .eql)), [.t 29, .c (.int .i64 (Int.ofNat 0))], none⟩,
      ⟨(some 31), (.read (.load 5 true) []), [.t 6], none⟩,
      ⟨(some 32), (.pure (.build [(.int .i64 (Int.ofNat 0)), (.bool false), (.int .i64 (Int.ofNat 0)), (.int .i64 (Int.ofNat 0)), (.int .i64 (Int.ofNat 0)), (.int .i64 (Int.ofNat 0)), (.string ⟨⟨[]⟩⟩)] [(0, 1), (1, 1), (2, 5)])), [.t 28, .t 30, .t 31], none⟩,
      ⟨(some 33), (.alloc (.bslice [(.int .i64 (Int.ofNat 0)), (.bool false), (.int .i64 (Int.ofNat 0)), (.int .i64 (Int.ofNat 0)), (.int .i64 (Int.ofNat 0)), (.int .i64 (Int.ofNat 0)), (.string ⟨⟨[]⟩⟩)] [(0, 7)] 7 1)), [.t 32], none⟩,
      ⟨(some 34), (.eff (.app 7 64)), [.t 27, .t 33], none⟩,
      ⟨none, (.eff (.mupd (.one .i))), [.t 20, .t 21, .t 34], none⟩] true) c58_1)
def k58 : DFn := ⟨56, (.seq (.region [
      ⟨(some 9), (.pure .mov), [.t 0], none⟩,
      ⟨(some 10), (.pure .nilchk), [.t 9], none⟩,
      ⟨(some 11), (.pure (.fadd 0)), [.t 10], none⟩,
      ⟨(some 12), (.read (.load 1 false) []), [.t 11], none⟩,
      ⟨(some 13), (.pure .mov), [.t 2], none⟩,
      ⟨(some 14), (.call 56), [.t 12, .t 13], none⟩,
      ⟨(some 8), (.pure .mov), [.t 14], none⟩,
      ⟨(some 15), (.pure (.extract 0)), [.t 8], none⟩,
      ⟨(some 16), (.pure (.extract 1)), [.t 8], none⟩,
      ⟨(some 6), (.alloc (.alloc [(.int .i64 (Int.ofNat 0)), (.int .i64 (Int.ofNat 0)), (.int .i64 (Int.ofNat 0)), (.int .i64 (Int.ofNat 0)), (.string ⟨⟨[]⟩⟩)])), [], none⟩,
      ⟨none, (.eff (.store 5)), [.t 6, .t 15], none⟩,
      ⟨(some 7), (.pure .mov), [.t 16], none⟩] false) c58_0), []⟩
theorem c58 : (match Tryz.prog.funcs[58]? with | some fn => compileFn Tryz.prog 4 [none, none, none, none] fn | none => none) = some k58 := by kernel_rfl


/-- (*tompion/oplog.Log).Read$1 -/
def c59_2 : C := .ret
def c59_1 : C := (.keep [4] c59_2)
def c59_0 : C := (.seq (.region [
      ⟨(some 5), (.read (.load 1 false) []), [.t 1], none⟩,
      ⟨(some 6), (.pure .mov), [.t 0], none⟩,
      ⟨(some 7), (.pure (.iaddS 7)), [.t 5, .t 6], none⟩,
      ⟨(some 8), (.pure (.fadd 0)), [.t 7], none⟩,
      ⟨(some 9), (.read (.load 1 false) []), [.t 8], none⟩,
      ⟨(some 10), (.read (.load 1 false) []), [.t 2], none⟩,
      ⟨(some 11), (.pure (.bin .gtr)), [.t 9, .t 10], none⟩,
      ⟨(some 4), (.pure .mov), [.t 11], none⟩] false) c59_1)
def k59 : DFn := ⟨12, (.seq (.region [
      ⟨(some 4), (.pure .mov), [.c (.bool false)], none⟩] false) c59_0), [.tmp 4]⟩
theorem c59 : (match Tryz.prog.funcs[59]? with | some fn => compileFn Tryz.prog 4 [none, none, some [4]] fn | none => none) = some k59 := by kernel_rfl


/-- sort.Search -/
def c60_13 : C := .ret
def c60_12 : C := (.keep [4] c60_13)
def c60_11 : C := (.seq (.region [
      ⟨(some 25), (.pure .mov), [.t 5], none⟩,
      ⟨(some 4), (.pure .mov), [.t 25], none⟩] false) c60_12)
def c60_2 : C := (.keep [5] c60_11)
def c60_10 : C := .skip
def c60_4 : C := (.keep [1, 5, 6] c60_10)
def c60_9 : C := (.cond (.t 21) (.region [
      ⟨(some 22), (.pure .mov), [.t 7], none⟩,
      ⟨(some 23), (.pure (.bin .add)), [.t 22, .c (.int .i64 (Int.ofNat 1))], none⟩,
      ⟨(some 5), (.pure .mov), [.t 23], none⟩] false)
    (.region [
      ⟨(some 24), (.pure .mov), [.t 7], none⟩,
      ⟨(some 6), (.pure .mov), [.t 24], none⟩] false))
def c60_8 : C := (.seq (.region [
      ⟨(some 18), (.pure .mov), [.t 1], none⟩,
      ⟨(some 19), (.pure .mov), [.t 7], none⟩,
      ⟨(some 20), .callv, [.t 18, .t 19], none⟩,
      ⟨(some 21), (.pure (.un .not)), [.t 20], none⟩] false) c60_9)
def c60_5 : C := (.block 1 (.seq (.region [
      ⟨(some 12), (.pure .mov), [.t 5], none⟩,
      ⟨(some 13), (.pure .mov), [.t 6], none⟩,
      ⟨(some 14), (.pure (.bin .add)), [.t 12, .t 13], none⟩,
      ⟨(some 15), (.pure (.conv .u64)), [.t 14], none⟩,
      ⟨(some 16), (.pure (.bin .shr)), [.t 15, .c (.int .u64 (Int.ofNat 1))], none⟩,
      ⟨(some 17), (.pure (.conv .i64)), [.t 16], none⟩,
      ⟨(some 7), (.pure .mov), [.t 17], none⟩] false) c60_8))
def c60_7 : C := (.exit 0)
def c60_6 : C := (.cond (.t 11) .skip
    (.keep [5] c60_7))
def c60_3 : C := (.seq (.seq (.seq (.region [
      ⟨(some 9), (.pure .mov), [.t 5], none⟩,
      ⟨(some 10), (.pure .mov), [.t 6], none⟩,
      ⟨(some 11), (.pure (.bin .lss)), [.t 9, .t 10], none⟩] false) c60_6) c60_5) c60_4)
def c60_1 : C := (.seq (.block 0 (.loop (some [1, 5, 6]) c60_3)) c60_2)
def c60_0 : C := (.seq (.region [
      ⟨(some 8), (.pure .mov), [.t 0], none⟩,
      ⟨(some 5), (.pure .mov), [.c (.int .i64 (Int.ofNat 0))], none⟩,
      ⟨(some 6), (.pure .mov), [.t 8], none⟩] false) c60_1)
def k60 : DFn := ⟨26, (.seq (.region [
      ⟨(some 4), (.pure .mov), [.c (.int .i64 (Int.ofNat 0))], none⟩] false) c60_0), [.tmp 4]⟩
theorem c60 : (match Tryz.prog.funcs[60]? with | some fn => compileFn Tryz.prog 4 [none, none, some [5], some [1, 5, 6], none, none, some [5], none, none, none, some [4]] fn | none => none) = some k60 := by kernel_rfl


/-- (*tompion/wheel.Wheel).Advance -/
def c61_43 : C := .ret
def c61_42 : C := (.keep [4] c61_43)
def c61_41 : C := (.seq (.region [
      ⟨(some 99), (.pure .mov), [.t 0], none⟩,
      ⟨(some 100), (.pure .mov), [.t 0], none⟩,
      ⟨(some 101), (.pure .nilchk), [.t 100], none⟩,
      ⟨(some 102), (.pure (.fadd 393)), [.t 101], none⟩,
      ⟨(some 103), (.read (.load 1 false) []), [.t 102], none⟩,
      ⟨(some 104), (.pure .mov), [.t 10], none⟩,
      ⟨(some 105), (.pure (.slcS 1 true false false)), [.t 103, .t 104], none⟩,
      ⟨(some 106), (.call 86), [.t 99, .t 105], none⟩,
      ⟨(some 4), (.pure .mov), [.t 106], none⟩] false) c61_42)
def c61_31 : C := (.keep [0, 10] c61_41)
def c61_40 : C := .skip
def c61_34 : C := (.keep [0, 10, 89, 90, 91] c61_40)
def c61_38 : C := (.region [
      ⟨(some 98), (.pure (.bin .add)), [.t 91, .c (.int .i64 (Int.ofNat 1))], none⟩,
      ⟨(some 91), (.pure .mov), [.t 98], none⟩] false)
def c61_39 : C := (.region [
      ⟨(some 95), (.pure .mov), [.t 0], none⟩,
      ⟨(some 96), (.pure .mov), [.t 12], none⟩,
      ⟨(some 97), (.call 85), [.t 95, .t 96], none⟩] false)
def c61_36 : C := (.seq (.block 4 (.seq (.region [
      ⟨(some 93), (.pure (.iaddS 1)), [.t 89, .t 91], none⟩,
      ⟨(some 94), (.read (.load 1 false) []), [.t 93], none⟩,
      ⟨(some 12), (.pure .mov), [.t 94], none⟩] false) c61_39)) c61_38)
def c61_37 : C := (.exit 3)
def c61_35 : C := (.seq (.cond (.t 92) .skip
    (.keep [0, 10] c61_37)) c61_36)
def c61_33 : C := (.seq (.seq (.region [
      ⟨(some 92), (.pure (.bin .lss)), [.t 91, .t 90], none⟩] false) c61_35) c61_34)
def c61_32 : C := (.block 3 (.loop (some [0, 10, 89, 90, 91]) c61_33))
def c61_30 : C := (.seq (.seq (.region [
      ⟨(some 89), (.pure .mov), [.t 7], none⟩,
      ⟨(some 90), (.pure .lenS), [.t 89], none⟩,
      ⟨(some 91), (.pure .mov), [.c (.int .i64 (Int.ofNat 0))], none⟩] false) c61_32) c61_31)
def c61_29 : C := (.seq (.region [
      ⟨(some 84), (.pure .mov), [.t 0], none⟩,
      ⟨(some 85), (.pure .nilchk), [.t 84], none⟩,
      ⟨(some 86), (.pure (.fadd 393)), [.t 85], none⟩,
      ⟨(some 87), (.read (.load 1 false) []), [.t 86], none⟩,
      ⟨(some 88), (.pure .lenS), [.t 87], none⟩,
      ⟨(some 10), (.pure .mov), [.t 88], none⟩] false) c61_30)
def c61_28 : C := (.seq (.region [
      ⟨(some 80), (.pure .mov), [.t 0], none⟩,
      ⟨(some 81), (.pure .mov), [.t 1], none⟩,
      ⟨(some 82), (.pure .nilchk), [.t 80], none⟩,
      ⟨(some 83), (.pure (.fadd 0)), [.t 82], none⟩,
      ⟨none, (.eff (.store 1)), [.t 83, .t 81], none⟩] false) c61_29)
def c61_25 : C := (.keep [0, 1, 7] c61_28)
def c61_27 : C := (.region [
      ⟨(some 77), (.pure .mov), [.t 0], none⟩,
      ⟨(some 78), (.pure .nilchk), [.t 77], none⟩,
      ⟨(some 79), (.pure (.fadd 392)), [.t 78], none⟩,
      ⟨none, (.eff (.store 1)), [.t 79, .c (.slice none 0 0)], none⟩] false)
def c61_26 : C := (.cond (.t 70) (.seq (.region [
      ⟨(some 71), (.pure .mov), [.t 7], none⟩,
      ⟨(some 72), (.pure .mov), [.t 0], none⟩,
      ⟨(some 73), (.pure .nilchk), [.t 72], none⟩,
      ⟨(some 74), (.pure (.fadd 392)), [.t 73], none⟩,
      ⟨(some 75), (.read (.load 1 false) []), [.t 74], none⟩,
      ⟨(some 76), (.eff (.app 1 8)), [.t 71, .t 75], none⟩,
      ⟨(some 7), (.pure .mov), [.t 76], none⟩] false) c61_27)
    .skip)
def c61_24 : C := (.seq (.seq (.region [
      ⟨(some 69), (.pure .mov), [.t 5], none⟩,
      ⟨(some 70), (.pure (.bin .eql)), [.t 69, .c (.int .i64 (Int.ofNat 6))], none⟩] false) c61_26) c61_25)
def c61_9 : C := (.keep [0, 1, 5, 7] c61_24)
def c61_23 : C := .skip
def c61_12 : C := (.keep [0, 1, 5, 7, 31] c61_23)
def c61_22 : C := (.region [
      ⟨(some 68), (.pure (.bin .add)), [.t 31, .c (.int .i64 (Int.ofNat 1))], none⟩,
      ⟨(some 31), (.pure .mov), [.t 68], none⟩] false)
def c61_16 : C := (.keep [0, 1, 5, 7, 31] c61_22)
def c61_20 : C := (.exit 0)
def c61_21 : C := (.cond (.t 60) (.region [
      ⟨(some 64), (.pure .mov), [.t 7], none⟩,
      ⟨(some 65), (.pure .mov), [.t 9], none⟩,
      ⟨(some 66), (.call 84), [.t 65, .c (.int .i64 (Int.ofNat 0)), .c (.int .i64 (Int.ofNat 63))], none⟩,
      ⟨(some 67), (.eff (.app 1 8)), [.t 64, .t 66], none⟩,
      ⟨(some 7), (.pure .mov), [.t 67], none⟩] false)
    (.region [
      ⟨(some 39), (.pure .mov), [.t 7], none⟩,
      ⟨(some 40), (.pure .mov), [.t 9], none⟩,
      ⟨(some 41), (.pure .mov), [.t 0], none⟩,
      ⟨(some 42), (.pure .nilchk), [.t 41], none⟩,
      ⟨(some 43), (.pure (.fadd 0)), [.t 42], none⟩,
      ⟨(some 44), (.read (.load 1 false) []), [.t 43], none⟩,
      ⟨(some 45), (.pure .mov), [.t 8], none⟩,
      ⟨(some 46), (.pure (.bin .mul)), [.c (.int .i64 (Int.ofNat 6)), .t 45], none⟩,
      ⟨(some 47), (.pure (.bin .shr)), [.t 44, .t 46], none⟩,
      ⟨(some 48), (.pure (.bin .and)), [.t 47, .c (.int .i64 (Int.ofNat 63))], none⟩,
      ⟨(some 49), (.pure .mov), [.t 1], none⟩,
      ⟨(some 50), (.pure .mov), [.t 8], none⟩,
      ⟨(some 51), (.pure (.bin .mul)), [.c (.int .i64 (Int.ofNat 6)), .t 50], none⟩,
      ⟨(some 52), (.pure (.bin .shr)), [.t 49, .t 51], none⟩,
      ⟨(some 53), (.pure (.bin .and)), [.t 52, .c (.int .i64 (Int.ofNat 63))], none⟩,
      ⟨(some 54), (.call 84), [.t 40, .t 48, .t 53], none⟩,
      ⟨(some 55), (.eff (.app 1 8)), [.t 39, .t 54], none⟩,
      ⟨(some 7), (.pure .mov), [.t 55], none⟩] false))
def c61_19 : C := (.cond (.t 56) (.keep [0, 1, 5, 7] c61_20)
    (.seq (.region [
      ⟨(some 61), (.pure .mov), [.t 8], none⟩,
      ⟨(some 62), (.pure .mov), [.t 5], none⟩,
      ⟨(some 63), (.pure (.bin .lss)), [.t 61, .t 62], none⟩,
      ⟨(some 60), (.pure .mov), [.t 63], none⟩] false) c61_21))
def c61_18 : C := (.block 2 (.seq (.region [
      ⟨(some 57), (.pure .mov), [.t 8], none⟩,
      ⟨(some 58), (.pure .mov), [.t 5], none⟩,
      ⟨(some 59), (.pure (.bin .gtr)), [.t 57, .t 58], none⟩,
      ⟨(some 56), (.pure .mov), [.t 59], none⟩] false) c61_19))
def c61_17 : C := (.seq (.region [
      ⟨(some 34), (.pure .mov), [.t 0], none⟩,
      ⟨(some 35), (.pure .mov), [.t 8], none⟩,
      ⟨(some 36), (.pure .nilchk), [.t 34], none⟩,
      ⟨(some 37), (.pure (.fadd 2)), [.t 36], none⟩,
      ⟨(some 38), (.pure (.iaddA 6 65)), [.t 37, .t 35], none⟩,
      ⟨(some 9), (.pure .mov), [.t 38], none⟩] false) c61_18)
def c61_14 : C := (.seq (.block 1 (.seq (.region [
      ⟨(some 33), (.pure .mov), [.t 31], none⟩,
      ⟨(some 8), (.pure .mov), [.t 33], none⟩] false) c61_17)) c61_16)
def c61_15 : C := (.exit 0)
def c61_13 : C := (.seq (.cond (.t 32) .skip
    (.keep [0, 1, 5, 7] c61_15)) c61_14)
def c61_11 : C := (.seq (.seq (.region [
      ⟨(some 32), (.pure (.bin .lss)), [.t 31, .c (.int .i64 (Int.ofNat 6))], none⟩] false) c61_13) c61_12)
def c61_10 : C := (.block 0 (.loop (some [0, 1, 5, 7, 31]) c61_11))
def c61_8 : C := (.seq (.seq (.region [
      ⟨(some 31), (.pure .mov), [.c (.int .i64 (Int.ofNat 0))], none⟩] false) c61_10) c61_9)
def c61_7 : C := (.seq .skip c61_8)
def c61_6 : C := (.seq (.region [
      ⟨(some 7), (.pure .mov), [.c (.slice none 0 0)], none⟩] false) c61_7)
def c61_5 : C := (.seq (.region [
      ⟨(some 26), (.pure .mov), [.t 0], none⟩,
      ⟨(some 27), (.pure .mov), [.t 1], none⟩,
      ⟨(some 28), (.call 83), [.t 26, .t 27], none⟩,
      ⟨(some 25), (.pure .mov), [.t 28], none⟩,
      ⟨(some 29), (.pure (.extract 0)), [.t 25], none⟩,
      ⟨(some 30), (.pure (.extract 1)), [.t 25], none⟩,
      ⟨(some 5), (.pure .mov), [.t 29], none⟩,
      ⟨(some 6), (.pure .mov), [.t 30], none⟩] false) c61_6)
def c61_1 : C := (.seq (.region [
      ⟨(some 23), (.pure .mov), [.t 1], none⟩,
      ⟨(some 24), (.pure .min), [.t 23, .c (.int .i64 (Int.ofNat 1099511627776))], none⟩,
      ⟨(some 1), (.pure .mov), [.t 24], none⟩] false) c61_5)
def c61_4 : C := .ret
def c61_3 : C := (.keep [4] c61_4)
def c61_2 : C := (.cond (.t 22) (.seq (.region [
      ⟨(some 4), (.pure .mov), [.c (.slice none 0 0)], none⟩] false) c61_3)
    .skip)
def c61_0 : C := (.seq (.seq (.region [
      ⟨(some 13), (.pure .mov), [.t 0], none⟩,
      ⟨(some 14), (.pure (.nilEq false .ptr)), [.t 13], none⟩,
      ⟨(some 15), (.pure .mov), [.t 14], none⟩,
      ⟨(some 16), (.pure .mov), [.t 1], (some (15, false))⟩,
      ⟨(some 17), (.pure .mov), [.t 0], (some (15, false))⟩,
      ⟨(some 18), (.pure .nilchk), [.t 17], (some (15, false))⟩,
      ⟨(some 19), (.pure (.fadd 0)), [.t 18], (some (15, false))⟩,
      ⟨(some 20), (.read (.load 1 false) []), [.t 19], (some (15, false))⟩,
      ⟨(some 21), (.pure (.bin .leq)), [.t 16, .t 20], (some (15, false))⟩,
      ⟨(some 22), (.pure .pick), [.t 15, .c (.bool true), .t 21], none⟩] false) c61_2) c61_1)
def k61 : DFn := ⟨107, (.seq (.region [
      ⟨(some 4), (.pure .mov), [.c (.slice none 0 0)], none⟩] false) c61_0), [.tmp 4]⟩
theorem c61 : (match Tryz.prog.funcs[61]? with | some fn => compileFn Tryz.prog 4 [none, none, none, none, some [4], none, none, none, none, some [0, 1, 5, 7], none, some [0, 1, 5, 7, 31], none, none, some [0, 1, 5, 7], some [0, 1, 5, 7, 31], none, none, none, some [0, 1, 5, 7], none, some [0, 1, 7], none, none, none, none, some [0, 10], none, some [0, 10, 89, 90, 91], none, none, some [0, 10], none, none, none, some [4]] fn | none => none) = some k61 := by kernel_rfl


/-- (*tompion/wheel.Wheel).Due -/
def c62_7 : C := .ret
def c62_6 : C := (.keep [4] c62_7)
def c62_5 : C := (.seq (.region [
      ⟨(some 14), (.pure .mov), [.t 5], none⟩,
      ⟨(some 15), (.pure .mov), [.t 1], none⟩,
      ⟨(some 16), (.pure .max), [.t 15, .c (.int .i64 (Int.ofNat 0))], none⟩,
      ⟨(some 17), (.pure .mov), [.t 5], none⟩,
      ⟨(some 18), (.pure .lenS), [.t 17], none⟩,
      ⟨(some 19), (.pure .min), [.t 16, .t 18], none⟩,
      ⟨(some 20), (.pure (.slcS 2 false true false)), [.t 14, .t 19], none⟩,
      ⟨(some 4), (.pure .mov), [.t 20], none⟩] false) c62_6)
def c62_1 : C := (.seq (.region [
      ⟨(some 8), (.pure .mov), [.t 0], none⟩,
      ⟨(some 9), (.pure .mov), [.t 0], none⟩,
      ⟨(some 10), (.pure .nilchk), [.t 9], none⟩,
      ⟨(some 11), (.pure (.fadd 393)), [.t 10], none⟩,
      ⟨(some 12), (.read (.load 1 false) []), [.t 11], none⟩,
      ⟨(some 13), (.call 86), [.t 8, .t 12], none⟩,
      ⟨(some 5), (.pure .mov), [.t 13], none⟩] false) c62_5)
def c62_4 : C := .ret
def c62_3 : C := (.keep [4] c62_4)
def c62_2 : C := (.cond (.t 7) (.seq (.region [
      ⟨(some 4), (.pure .mov), [.c (.slice none 0 0)], none⟩] false) c62_3)
    .skip)
def c62_0 : C := (.seq (.seq (.region [
      ⟨(some 6), (.pure .mov), [.t 0], none⟩,
      ⟨(some 7), (.pure (.nilEq false .ptr)), [.t 6], none⟩] false) c62_2) c62_1)
def k62 : DFn := ⟨21, (.seq (.region [
      ⟨(some 4), (.pure .mov), [.c (.slice none 0 0)], none⟩] false) c62_0), [.tmp 4]⟩
theorem c62 : (match Tryz.prog.funcs[62]? with | some fn => compileFn Tryz.prog 4 [none, none, none, none, some [4], none, none, some [4]] fn | none => none) = some k62 := by kernel_rfl


end Go.Proofs.YtolmfeknhoiepaaGreatDoor.D
