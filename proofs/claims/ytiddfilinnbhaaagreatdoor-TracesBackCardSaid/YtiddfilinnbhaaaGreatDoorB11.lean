/- A small verified interpreter over names, its proofs, and what was proved with it. No condition. -/
import Derived.Test.YtiddfilinnbhaaaGreatDoorB10
import Derived.Test.YtiddfilinnbhaaaGreatDoorB08
set_option linter.all false
set_option linter.deprecated false
section
namespace Go.Ai
open Go.Proofs
set_option maxRecDepth 100000
noncomputable def H0m (m:Int) : Mem:=⟨.tr (u4 e4 0 (.v 0 (.cells [.lit (.int .i64 m)] false 0))),3⟩
noncomputable def O34:CallF:=addO 60 sStr noO
theorem O34_ok:∀ B,CallOK B 3 Tryz.prog O34:=addO_ok sStr_w (noO_ok _ _)
def bl34:List Nat:=[21,57,58,59,91,92,131,129,134]
noncomputable def Top (m:Int) : COut:=callB Tryz.prog bl34 O34 10000 16 [] (H0m m)
theorem runS (k:Nat) : retIs (.lit (.bool true)) (Top (.ofNat (k+3)))=true:=by kernel_rfl
theorem runN (k:Nat) : retIs (.lit (.bool true)) (Top (.negSucc k))=true:=by kernel_rfl
theorem run0:retIs (.lit (.bool true)) (Top (.ofNat 0))=true:=by kernel_rfl
theorem run1:retIs (.lit (.bool true)) (Top (.ofNat 1))=true:=by kernel_rfl
theorem run2:retIs (.lit (.bool true)) (Top (.ofNat 2))=true:=by kernel_rfl
theorem top_run:∀ m:Int,retIs (.lit (.bool true)) (Top m)=true
 | .ofNat 0=>run0
 | .ofNat 1=>run1
 | .ofNat 2=>run2
 | .ofNat (k+3)=>runS k
 | .negSucc k=>runN k
end Go.Ai
end
