/- The type at a path: what both sides give. -/
import Derived.Test.YteidofmblfglkaaD2p
import Derived.Test.YteidofmblfglkaaD9p
import Derived.Test.YteidofmblfglkaaC3
set_option linter.unusedVariables false
set_option linter.unusedSimpArgs false
set_option maxHeartbeats 1000000
namespace Go.Q
end Go.Q
