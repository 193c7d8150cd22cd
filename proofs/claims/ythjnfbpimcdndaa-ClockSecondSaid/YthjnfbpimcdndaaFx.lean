/- Facts of the tables. -/
import Derived.Test.YthjnfbpimcdndaaProg
import Derived.Test.YthjnfbpimcdndaaS8
set_option linter.unusedVariables false
set_option linter.unusedSimpArgs false
namespace Go.Proofs.Ythjnfbpimcdndaa
open Go.Sep Go.RowKit

theorem info3 : Try.prog.info? 3 = some Try.t3 := by kernel_rfl
theorem byt3 : Try.t3.bytes = 8 := rfl
theorem info4 : Try.prog.info? 4 = some Try.t4 := by kernel_rfl
theorem byt4 : Try.t4.bytes = 1 := rfl
end Go.Proofs.Ythjnfbpimcdndaa
