/- Facts of the tables. -/
import Derived.Test.YtaojcncmbbgmcaaProg
import Derived.Test.YtaojcncmbbgmcaaS8
set_option linter.unusedVariables false
set_option linter.unusedSimpArgs false
namespace Go.Proofs.Ytaojcncmbbgmcaa
open Go.Sep Go.RowKit

theorem info5 : Try.prog.info? 5 = some Try.t5 := by kernel_rfl
theorem byt5 : Try.t5.bytes = 1 := rfl
theorem info24 : Try.prog.info? 24 = some Try.t24 := by kernel_rfl
theorem byt24 : Try.t24.bytes = 16 := rfl
end Go.Proofs.Ytaojcncmbbgmcaa
