/- The compiled functions of the seat, as the machine "D" runs them, and what each comes to (written by a program). No statement of the seat is proved in this text. -/
import Derived.Test.YtdpbbppjjjhnoaaGreatDoorDz
import Derived.Test.YtdpbbppjjjhnoaaGreatDoorProg
set_option maxRecDepth 100000
set_option linter.unusedVariables false
namespace Go.Proofs.YtdpbbppjjjhnoaaGreatDoor.D
open Go
/-- slices.IndexFunc[[]int,int] -/
def c130_16 : C := .ret
def c130_15 : C := (.keep [4] c130_16)
def c130_14 : C := (.seq (.region [
      ⟨(some 4), (.pure .mov), [.c (.int .i64 (Int.negSucc 0))], none⟩] false) c130_15)
def c130_1 : C := (.keep [] c130_14)
def c130_13 : C := .skip
def c130_4 : C := (.keep [0, 1, 7, 8] c130_13)
def c130_8 : C := (.region [
      ⟨(some 18), (.pure (.bin .add)), [.t 8, .c (.int .i64 (Int.ofNat 1))], none⟩,
      ⟨(some 8), (.pure .mov), [.t 18], none⟩] false)
def c130_12 : C := .ret
def c130_11 : C := (.keep [4] c130_12)
def c130_10 : C := (.cond (.t 16) (.seq (.region [
      ⟨(some 17), (.pure .mov), [.t 5], none⟩,
      ⟨(some 4), (.pure .mov), [.t 17], none⟩] false) c130_11)
    .skip)
def c130_9 : C := (.seq (.region [
      ⟨(some 11), (.pure .mov), [.t 1], none⟩,
      ⟨(some 12), (.pure .mov), [.t 0], none⟩,
      ⟨(some 13), (.pure .mov), [.t 5], none⟩,
      ⟨(some 14), (.pure (.iaddS 1)), [.t 12, .t 13], none⟩,
      ⟨(some 15), (.read (.load 1 false) []), [.t 14], none⟩,
      ⟨(some 16), .callv, [.t 11, .t 15], none⟩] false) c130_10)
def c130_6 : C := (.seq (.block 1 (.seq (.region [
      ⟨(some 10), (.pure .mov), [.t 8], none⟩,
      ⟨(some 5), (.pure .mov), [.t 10], none⟩] false) c130_9)) c130_8)
def c130_7 : C := (.exit 0)
def c130_5 : C := (.seq (.cond (.t 9) .skip
    (.keep [] c130_7)) c130_6)
def c130_3 : C := (.seq (.seq (.region [
      ⟨(some 9), (.pure (.bin .lss)), [.t 8, .t 7], none⟩] false) c130_5) c130_4)
def c130_2 : C := (.block 0 (.loop (some [0, 1, 7, 8]) c130_3))
def c130_0 : C := (.seq (.seq (.region [
      ⟨(some 6), (.pure .mov), [.t 0], none⟩,
      ⟨(some 7), (.pure .lenS), [.t 6], none⟩,
      ⟨(some 8), (.pure .mov), [.c (.int .i64 (Int.ofNat 0))], none⟩] false) c130_2) c130_1)
def k130 : DFn := ⟨19, (.seq (.region [
      ⟨(some 4), (.pure .mov), [.c (.int .i64 (Int.ofNat 0))], none⟩] false) c130_0), [.tmp 4]⟩
theorem c130 : (match Tryz.prog.funcs[130]? with | some fn => compileFn Tryz.prog 4 [none, some [], none, some [0, 1, 7, 8], none, none, some [], none, none, none, none, some [4], none, some [4]] fn | none => none) = some k130 := by kernel_rfl


end Go.Proofs.YtdpbbppjjjhnoaaGreatDoor.D
