/- Parts of an interpreter and of a proof. No condition. -/
import Derived.Test.YtpimmmnkcgnjjaaGreatK19
set_option linter.all false
open Go.Proofs Go.Proofs.Tryz
namespace Go.Ai
noncomputable def Otop:CallF:=Jv prog (Mh (gr0) (gr1++gr3++gr4++gr5)) 10000
theorem Otop_ok:∀B,A4 B 0 prog Otop:=(Ku (Ny (gr0_good) ((((gr1_good).append gr3_good).append gr4_good).append gr5_good)) hG0 10000)
theorem top_run:b1e (.lit (.bool true)) (Otop 13 [] H0)=true:=by kernel_rfl
end Go.Ai
