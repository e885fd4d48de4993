/- A small verified interpreter over names, its proofs, and what was proved with it. No condition. -/
import Derived.Test.YtfllomlghjolpaaDoorD09
import Derived.Test.YtfllomlghjolpaaDoorD11
import Derived.Test.YtfllomlghjolpaaDoorD06
set_option linter.all false
set_option linter.deprecated false
section
namespace Go.Ai
open Go.Proofs
set_option maxRecDepth 10000
set_option maxHeartbeats 40000000
end Go.Ai
end
section
namespace Go.Ai
open Go.Proofs
set_option maxRecDepth 10000
set_option maxHeartbeats 40000000
mutual
theorem small_ok' : ∀ (x:NodeM) (left:Int),(sizeN x:Int)≤left→smallM x left=(true,left - sizeN x)
  | .mk op k q subs,left,h=>by
    have h' : ((sizeL subs+1:Nat) : Int)≤left:=h
    unfold smallM
    rw [smallL_ok' subs (left - 1) (by omega)]
    unfold sizeN
    congr 1
    omega
theorem smallL_ok' : ∀ (l:List NodeM) (left:Int),(sizeL l:Int)≤left→smallL l left=(true,left - sizeL l)
  | [],left,h=>by
    unfold smallL
    simp only [sizeL] at h ⊢
    simp [show 0≤left by omega]
  | x :: l,left,h=>by
    have h' : ((sizeN x+sizeL l:Nat) : Int)≤left:=h
    unfold smallL
    rw [if_neg (by omega),small_ok' x left (by omega)]
    dsimp only
    rw [smallL_ok' l _ (by omega)]
    simp only [sizeL]
    congr 1
    omega
end
end Go.Ai
end
section
namespace Go.Ai
open Go.Proofs
set_option maxRecDepth 10000
set_option maxHeartbeats 40000000
end Go.Ai
end
section
namespace Go.Ai
open Go.Proofs
set_option maxRecDepth 10000
set_option maxHeartbeats 40000000
theorem of_valid (st inp out:Nat) (part:Bool) (es codes:List Nat) : validM ((machOf st inp out part es).rows.length:Nat) (machOf st inp out part es).inp (machOf st inp out part es).out (ofF st inp out codes)=true:=by
  have h:=(ofF_ok st inp out codes).1
  have e1:(machOf st inp out part es).rows.length=1+st % 6:=by show ((List.range (1+st % 6)).map _).length=_; rw [List.length_map,List.length_range]
  have e2:(machOf st inp out part es).inp=((1+inp % 3:Nat) : Int):=by show 1+((inp % 3:Nat) : Int)=_; omega
  have e3:(machOf st inp out part es).out=((1+out % 3:Nat) : Int):=by show 1+((out % 3:Nat) : Int)=_; omega
  rw [e1,e2,e3]
  exact h
end Go.Ai
end
