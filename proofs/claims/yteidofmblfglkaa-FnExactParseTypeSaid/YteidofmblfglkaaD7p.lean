/- Copies are what was copied. -/
import Derived.Test.YteidofmblfglkaaQe
import Derived.Test.YteidofmblfglkaaC3
set_option linter.unusedVariables false
set_option linter.unusedSimpArgs false
set_option maxHeartbeats 1000000
namespace Go.Q
end Go.Q
