/- The closed statement, by one run. No condition. -/
import Derived.Test.YtfhkfifjbgcpiaaDoorB1
set_option linter.all false
set_option linter.deprecated false
section
namespace Go.Ai
open Go.Proofs
theorem known_run : retIs (.lit (.bool true)) (callF Tryd.prog OK1 10000 9 [] H0) = true := by kernel_rfl
end Go.Ai
end
