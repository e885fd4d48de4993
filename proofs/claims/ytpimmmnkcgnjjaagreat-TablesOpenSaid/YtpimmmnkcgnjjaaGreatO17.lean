/- A small verified interpreter over names, its proofs, and what was proved with it. No condition. -/
import Derived.Test.YtpimmmnkcgnjjaaGreatO16
set_option linter.all false
set_option linter.deprecated false
section
namespace Go.Ai
open Go.Proofs Go.Proofs.Tryz
noncomputable def Otop:CallF:=a7c prog (b0u (gr0) (gr1++gr3++gr4++gr5)) 10000
theorem Otop_ok:∀ B,Az B 0 prog Otop:=(a8p (b2q (gr0_good) ((((gr1_good).append gr3_good).append gr4_good).append gr5_good)) hG0 10000)
theorem top_run:d3d (.lit (.bool true)) (Otop 13 [] H0)=true:=by kernel_rfl
end Go.Ai
end

