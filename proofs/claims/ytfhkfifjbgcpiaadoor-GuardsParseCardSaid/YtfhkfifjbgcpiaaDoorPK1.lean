/- The examples of the chapter, by one run. No condition. -/
import Derived.Test.YtfhkfifjbgcpiaaDoorPC1
import Derived.Test.YtfhkfifjbgcpiaaDoorPA4
set_option linter.all false
set_option linter.deprecated false
section
namespace Go.Ai
open Go.Proofs
theorem lives_run:retIs (.lit (.bool true)) (callF Tryd.prog O5 10000 16 [] H0)=true:=by kernel_rfl
end Go.Ai
end
