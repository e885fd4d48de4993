/- A small verified interpreter over names, its proofs, and what was proved with it. No condition. -/
import Derived.Test.YtpimmmnkcgnjjaaGreatN16
set_option linter.all false
set_option linter.deprecated false
section
namespace Go.Ai
open Go.Proofs
noncomputable def Otop:CallF:=callG Tryz.prog (withO (gr0) (gr1++gr3++gr4++gr5)) 10000
theorem Otop_ok:∀ B,CallOK B 0 Tryz.prog Otop:=(callG_ok (withO_ok (gr0_good) ((((gr1_good).append gr3_good).append gr4_good).append gr5_good)) hG0 10000)
theorem top_run:retIs (.lit (.bool true)) (Otop 13 [] H0)=true:=by kernel_rfl
end Go.Ai
end
