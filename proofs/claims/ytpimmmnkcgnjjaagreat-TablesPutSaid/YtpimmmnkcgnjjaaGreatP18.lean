/- A small verified interpreter over names, its proofs, and what was proved with it. No condition. -/
import Derived.Test.YtpimmmnkcgnjjaaGreatP17
import Derived.Test.YtpimmmnkcgnjjaaGreatP08
import Derived.Test.YtpimmmnkcgnjjaaGreatP06
set_option linter.all false
set_option linter.deprecated false
section
namespace Go.Ai
open Go.Proofs
theorem H0_none (a:Nat) : H0.get a=none:=get4_e4 a
theorem lives_w (H:Mem) : WC 0 Tryz.prog 13 [] H fun r=>r=.ret (.lit (.bool true)) H:=by
 refine WC.local (H0:=H0) (O:=Otop) Otop_ok top_run rfl rfl (Nat.le_refl 0) (fun a=>?_) (fun a x hx=>?_) fun a x hx=>?_
 ·rw [H0_none]; rfl
 ·rw [H0_none] at hx; cases hx
 ·rw [H0_none] at hx; cases hx
end Go.Ai
end
