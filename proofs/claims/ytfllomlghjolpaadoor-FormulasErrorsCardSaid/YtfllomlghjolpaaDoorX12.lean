/- A small verified interpreter over names, its proofs, and what was proved with it. No condition. -/
import Derived.Test.YtfllomlghjolpaaDoorX07
set_option linter.all false
set_option linter.deprecated false
section
namespace Go.Ai
open Go.Proofs
theorem lives_run:retIs (.lit (.bool true)) (callF Tryd.prog noO 10000 14 [] H0)=true:=by kernel_rfl
end Go.Ai
end
