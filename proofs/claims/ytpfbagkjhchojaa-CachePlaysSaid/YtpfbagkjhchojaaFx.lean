/- Facts of the tables. -/
import Derived.Test.YtpfbagkjhchojaaProg
import Derived.Test.YtpfbagkjhchojaaS8
set_option linter.unusedVariables false
set_option linter.unusedSimpArgs false
namespace Go.Proofs.Ytpfbagkjhchojaa
open Go.Sep Go.RowKit

theorem info3 : Try.prog.info? 3 = some Try.t3 := by kernel_rfl
theorem byt3 : Try.t3.bytes = 8 := rfl
theorem info4 : Try.prog.info? 4 = some Try.t4 := by kernel_rfl
theorem byt4 : Try.t4.bytes = 1 := rfl
theorem info5 : Try.prog.info? 5 = some Try.t5 := by kernel_rfl
theorem byt5 : Try.t5.bytes = 1 := rfl
theorem info44 : Try.prog.info? 44 = some Try.t44 := by kernel_rfl
theorem byt44 : Try.t44.bytes = 192 := rfl
theorem info80 : Try.prog.info? 80 = some Try.t80 := by kernel_rfl
theorem byt80 : Try.t80.bytes = 144 := rfl
theorem info83 : Try.prog.info? 83 = some Try.t83 := by kernel_rfl
theorem byt83 : Try.t83.bytes = 24 := rfl
theorem info85 : Try.prog.info? 85 = some Try.t85 := by kernel_rfl
theorem byt85 : Try.t85.bytes = 8 := rfl
theorem info102 : Try.prog.info? 102 = some Try.t102 := by kernel_rfl
theorem byt102 : Try.t102.bytes = 144 := rfl
theorem info116 : Try.prog.info? 116 = some Try.t116 := by kernel_rfl
theorem byt116 : Try.t116.bytes = 16 := rfl
theorem info121 : Try.prog.info? 121 = some Try.t121 := by kernel_rfl
theorem byt121 : Try.t121.bytes = 40 := rfl
theorem info127 : Try.prog.info? 127 = some Try.t127 := by kernel_rfl
theorem byt127 : Try.t127.bytes = 64 := rfl
theorem info138 : Try.prog.info? 138 = some Try.t138 := by kernel_rfl
theorem byt138 : Try.t138.bytes = 16 := rfl
end Go.Proofs.Ytpfbagkjhchojaa
