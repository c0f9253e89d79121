/- The runs at nought, below nought and beyond four digits. -/
import Derived.Test.YtjbckgabnkljlaaGreatDoorPx

section
set_option linter.unusedVariables false
set_option maxHeartbeats 0
set_option maxRecDepth 100000
namespace Go.Ev.Cc
theorem run_0 : run [fM] tb rt (px2 [fM]) 100000 3 (.cons (.int .i64 (.ofNat 0)) .nil) h0 yes = true := by kernel_rfl
/-- a number below zero -/
def faB : List Fact := [fM, ⟨.bin .lss, .s 0, .c .i64 0, .bool true⟩]
theorem run_B : run faB tb rt (px2 faB) 100000 3 (.cons (.sym 0) .nil) h0 yes = true := by kernel_rfl
/-- a number of more than four digits -/
def faA : List Fact := [fM, ⟨.bin .lss, .s 0, .c .i64 0, .bool false⟩, ⟨.bin .gtr, .s 0, .c .i64 9999, .bool true⟩]
theorem run_A : run faA tb rt (px2 faA) 100000 3 (.cons (.sym 0) .nil) h0 yes = true := by kernel_rfl
end Go.Ev.Cc
end
