/- Facts of the tables. -/
import Derived.Test.YtmnokoepimhelaaProg
import Derived.Test.YtmnokoepimhelaaS8
set_option linter.unusedVariables false
set_option linter.unusedSimpArgs false
namespace Go.Proofs.Ytmnokoepimhelaa
open Go.Sep Go.RowKit

theorem info5 : Try.prog.info? 5 = some Try.t5 := by kernel_rfl
theorem byt5 : Try.t5.bytes = 1 := rfl
end Go.Proofs.Ytmnokoepimhelaa
