/- The known true answer. -/
import Derived.Test.YtjbckgabnkljlaaGreatDoorCtx

section
set_option linter.unusedVariables false
set_option maxHeartbeats 0
set_option maxRecDepth 100000
namespace Go.Ev.Cc
theorem known_run : run [fM] tb rt (px1 [fM]) 100000 4 .nil h0 yes = true := by kernel_rfl
end Go.Ev.Cc
end
