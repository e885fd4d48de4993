/- A small verified interpreter over names, its proofs, and what was proved with it. No condition. -/
import Derived.Test.YtpimmmnkcgnjjaaGreatL18
import Derived.Test.YtpimmmnkcgnjjaaGreatL08
import Derived.Test.YtpimmmnkcgnjjaaGreatL06
set_option linter.all false
set_option linter.deprecated false
section
namespace Go.Ai
open Go.Proofs Go.Proofs.Tryz
theorem c6y (a:Nat) : H0.get a=none:=b7r a
theorem c6z (H:Mem) : WC 0 prog 13 [] H fun r=>r=.ret (.lit (.bool true)) H:=by
 refine WC.local (H0:=H0) (O:=Otop) Otop_ok top_run rfl rfl (Dp 0) (fun a=>?_) (fun a x hx=>?_) fun a x hx=>?_
 ·rw[c6y];rfl
 ·rw[c6y] at hx;cases hx
 ·rw[c6y] at hx;cases hx
end Go.Ai
end

