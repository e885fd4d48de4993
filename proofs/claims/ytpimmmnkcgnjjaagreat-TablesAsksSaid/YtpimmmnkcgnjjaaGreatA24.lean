/- Parts of an interpreter and of a proof. No condition. -/
import Derived.Test.YtpimmmnkcgnjjaaGreatA19
import Derived.Test.YtpimmmnkcgnjjaaGreatA23
set_option linter.all false
set_option maxHeartbeats 40000000
set_option maxRecDepth 10000
open Go.Proofs Go.Proofs.Tryz
namespace Go.Ai
theorem e3d(H:Mem):WC 0 prog 109 [.nl,.lit (.func (.func 110) #[] #[])] H λr=>r=.ret (.tup []) H:=by
 refine WC.local (H0:=H0) (O:=Jx prog noO 1000) (Kw (Ah _ _) hG0 1000) (by kernel_rfl) rfl rfl (Wy 0) (λa=>?_) (λa x hx=>?_) λa x hx=>?_
 .rw[K8];rfl
 .rw[K8] at hx;cases hx
 .rw[K8] at hx;cases hx
theorem e3e(H:Mem):WC 0 prog 111 [.nl,.lit (.func (.func 112) #[] #[])] H λr=>r=.ret (.nl) H:=by
 refine WC.local (H0:=H0) (O:=Jx prog noO 1000) (Kw (Ah _ _) hG0 1000) (by kernel_rfl) rfl rfl (Wy 0) (λa=>?_) (λa x hx=>?_) λa x hx=>?_
 .rw[K8];rfl
 .rw[K8] at hx;cases hx
 .rw[K8] at hx;cases hx
end Go.Ai
