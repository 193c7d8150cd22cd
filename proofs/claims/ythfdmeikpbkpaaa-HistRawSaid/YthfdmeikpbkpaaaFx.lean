/- Facts of the tables. -/
import Derived.Test.YthfdmeikpbkpaaaProg
import Derived.Test.YthfdmeikpbkpaaaS8
set_option linter.unusedVariables false
set_option linter.unusedSimpArgs false
namespace Go.Proofs.Ythfdmeikpbkpaaa
open Go.Sep Go.RowKit

theorem info3 : Try.prog.info? 3 = some Try.t3 := by kernel_rfl
theorem byt3 : Try.t3.bytes = 8 := rfl
theorem info5 : Try.prog.info? 5 = some Try.t5 := by kernel_rfl
theorem byt5 : Try.t5.bytes = 1 := rfl
theorem info37 : Try.prog.info? 37 = some Try.t37 := by kernel_rfl
theorem byt37 : Try.t37.bytes = 48 := rfl
theorem info38 : Try.prog.info? 38 = some Try.t38 := by kernel_rfl
theorem byt38 : Try.t38.bytes = 24 := rfl
theorem info47 : Try.prog.info? 47 = some Try.t47 := by kernel_rfl
theorem byt47 : Try.t47.bytes = 120 := rfl
theorem info52 : Try.prog.info? 52 = some Try.t52 := by kernel_rfl
theorem byt52 : Try.t52.bytes = 64 := rfl
theorem info57 : Try.prog.info? 57 = some Try.t57 := by kernel_rfl
theorem byt57 : Try.t57.bytes = 16 := rfl
end Go.Proofs.Ythfdmeikpbkpaaa
