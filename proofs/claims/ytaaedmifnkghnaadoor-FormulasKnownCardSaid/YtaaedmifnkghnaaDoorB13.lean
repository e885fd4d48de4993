/- A small verified interpreter over names, its proofs, and what was proved with it. No condition. -/
import Derived.Test.YtaaedmifnkghnaaDoorB12
set_option linter.all false
set_option linter.deprecated false
section
namespace Go.Ai
open Go.Proofs
noncomputable def Otop : CallF := callF Tryd.prog (withO (gr3 ++ gr4 ++ gr6 ++ gr9 ++ gr10 ++ gr14 ++ gr15 ++ gr16) (gr7 ++ gr8 ++ gr13)) 10000
theorem Otop_ok : ∀ B, CallOK B 6 Tryd.prog Otop := (callF_ok (withO_ok ((((((((gr3_good).append gr4_good).append gr6_good).append gr9_good).append gr10_good).append gr14_good).append gr15_good).append gr16_good) (((gr7_good).append gr8_good).append gr13_good)) hG0 10000)
theorem top_run : retIs (.lit (.bool true)) (Otop 3 [] H0) = true := by kernel_rfl
end Go.Ai
end
