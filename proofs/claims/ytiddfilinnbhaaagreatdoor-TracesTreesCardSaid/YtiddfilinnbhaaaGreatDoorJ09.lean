/- A small verified interpreter over names, its proofs, and what was proved with it. No condition. -/
import Derived.Test.YtiddfilinnbhaaaGreatDoorJ05
import Derived.Test.YtiddfilinnbhaaaGreatDoorJ08
set_option linter.all false
set_option linter.deprecated false
section
namespace Go.Ai
open Go.Proofs
set_option maxRecDepth 10000
set_option maxHeartbeats 40000000
def u16Cells (l:List Nat) : List AV:=l.map fun (c:Nat)=>.lit (.int .u16 (c:Int))
end Go.Ai
end
