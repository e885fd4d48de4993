/- Parts of an interpreter and of a proof. No condition. -/
import Derived.Test.YtpimmmnkcgnjjaaGreatK17
import Derived.Test.YtpimmmnkcgnjjaaGreatK21
set_option linter.all false
set_option maxHeartbeats 40000000
set_option maxRecDepth 10000
open Go.Proofs Go.Proofs.Tryz
namespace Go.Ai
theorem e2q(H:Mem):WC 0 prog 109 [.nl,.lit (.func (.func 110) #[] #[])] H λr=>r=.ret (.tup []) H:=by
 refine WC.local (H0:=H0) (O:=Jv prog noO 1000) (Ku (Ag _ _) hG0 1000) (by kernel_rfl) rfl rfl (Wy 0) (λa=>?_) (λa x hx=>?_) λa x hx=>?_
 .rw[K1];rfl
 .rw[K1] at hx;cases hx
 .rw[K1] at hx;cases hx
theorem e2r(H:Mem):WC 0 prog 111 [.nl,.lit (.func (.func 112) #[] #[])] H λr=>r=.ret (.nl) H:=by
 refine WC.local (H0:=H0) (O:=Jv prog noO 1000) (Ku (Ag _ _) hG0 1000) (by kernel_rfl) rfl rfl (Wy 0) (λa=>?_) (λa x hx=>?_) λa x hx=>?_
 .rw[K1];rfl
 .rw[K1] at hx;cases hx
 .rw[K1] at hx;cases hx
end Go.Ai
