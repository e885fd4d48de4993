/- Parts of an interpreter and of a proof. No condition. -/
import Derived.Test.YtpimmmnkcgnjjaaGreatK20
import Derived.Test.YtpimmmnkcgnjjaaGreatK08
import Derived.Test.YtpimmmnkcgnjjaaGreatK05
set_option linter.all false
open Go.Proofs Go.Proofs.Tryz
namespace Go.Ai
theorem K1(a:Nat):H0.get a=none:=Te a
theorem e2p(H:Mem):WC 0 prog 13 [] H λr=>r=.ret (.lit (.bool true)) H:=by
 refine WC.local (H0:=H0) (O:=Otop) Otop_ok top_run rfl rfl (Wy 0) (λa=>?_) (λa x hx=>?_) λa x hx=>?_
 .rw[K1];rfl
 .rw[K1] at hx;cases hx
 .rw[K1] at hx;cases hx
end Go.Ai
