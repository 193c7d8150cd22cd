/- Facts of the tables. -/
import Derived.Test.YtlakembncfkimaaProg
import Derived.Test.YtlakembncfkimaaS8
set_option linter.unusedVariables false
set_option linter.unusedSimpArgs false
namespace Go.Proofs.Ytlakembncfkimaa
open Go.Sep Go.RowKit

theorem info3 : Try.prog.info? 3 = some Try.t3 := by kernel_rfl
theorem byt3 : Try.t3.bytes = 8 := rfl
theorem info41 : Try.prog.info? 41 = some Try.t41 := by kernel_rfl
theorem byt41 : Try.t41.bytes = 16 := rfl
end Go.Proofs.Ytlakembncfkimaa
