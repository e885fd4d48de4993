/- A small verified interpreter over names, its proofs, and what was proved with it. No condition. -/
import Derived.Test.YtpimmmnkcgnjjaaGreatO14
import Derived.Test.YtpimmmnkcgnjjaaGreatO18
set_option linter.all false
set_option linter.deprecated false
section
namespace Go.Ai
open Go.Proofs Go.Proofs.Tryz
set_option maxRecDepth 10000
set_option maxHeartbeats 40000000
theorem g1v (H:Mem) : WC 0 prog 109 [.nl,.lit (.func (.func 110) #[] #[])] H fun r=>r=.ret (.tup []) H:=by
 refine WC.local (H0:=H0) (O:=a7c prog noO 1000) (a8p (Ah _ _) hG0 1000) (by kernel_rfl) rfl rfl (Dm 0) (fun a=>?_) (fun a x hx=>?_) fun a x hx=>?_
 ·rw[a9a];rfl
 ·rw[a9a] at hx;cases hx
 ·rw[a9a] at hx;cases hx
theorem g1w (H:Mem) : WC 0 prog 111 [.nl,.lit (.func (.func 112) #[] #[])] H fun r=>r=.ret (.nl) H:=by
 refine WC.local (H0:=H0) (O:=a7c prog noO 1000) (a8p (Ah _ _) hG0 1000) (by kernel_rfl) rfl rfl (Dm 0) (fun a=>?_) (fun a x hx=>?_) fun a x hx=>?_
 ·rw[a9a];rfl
 ·rw[a9a] at hx;cases hx
 ·rw[a9a] at hx;cases hx
end Go.Ai
end

