/- Parts of an interpreter and of a proof. No condition. -/
import Derived.Test.YtpimmmnkcgnjjaaGreatA22
import Derived.Test.YtpimmmnkcgnjjaaGreatA08
import Derived.Test.YtpimmmnkcgnjjaaGreatA05
set_option linter.all false
open Go.Proofs Go.Proofs.Tryz
namespace Go.Ai
theorem K8(a:Nat):H0.get a=none:=S8 a
theorem b6b(H:Mem):WC 0 prog 13 [] H λr=>r=.ret (.lit (.bool true)) H:=by
 refine WC.local (H0:=H0) (O:=Otop) Otop_ok top_run rfl rfl (Wy 0) (λa=>?_) (λa x hx=>?_) λa x hx=>?_
 .rw[K8];rfl
 .rw[K8] at hx;cases hx
 .rw[K8] at hx;cases hx
end Go.Ai
