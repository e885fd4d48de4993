/- A small verified interpreter over names, its proofs, and what was proved with it. No condition. -/
import Derived.Test.YtpimmmnkcgnjjaaGreatO17
import Derived.Test.YtpimmmnkcgnjjaaGreatO08
import Derived.Test.YtpimmmnkcgnjjaaGreatO05
set_option linter.all false
set_option linter.deprecated false
section
namespace Go.Ai
open Go.Proofs Go.Proofs.Tryz
theorem a9a (a:Nat) : H0.get a=none:=b8v a
theorem c7k (H:Mem) : WC 0 prog 13 [] H fun r=>r=.ret (.lit (.bool true)) H:=by
 refine WC.local (H0:=H0) (O:=Otop) Otop_ok top_run rfl rfl (Dm 0) (fun a=>?_) (fun a x hx=>?_) fun a x hx=>?_
 ·rw[a9a];rfl
 ·rw[a9a] at hx;cases hx
 ·rw[a9a] at hx;cases hx
end Go.Ai
end

