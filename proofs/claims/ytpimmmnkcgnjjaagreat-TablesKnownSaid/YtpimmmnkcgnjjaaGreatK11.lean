/- Parts of an interpreter and of a proof. No condition. -/
import Derived.Test.YtpimmmnkcgnjjaaGreatK10
set_option linter.all false
set_option maxHeartbeats 40000000
set_option maxRecDepth 10000
open Go.Proofs
namespace Go.Ai
def A9(x:Nat)(g:Gb):Gb:=λa=>if a<x then none else g a
theorem Cq{x a:Nat}{g:Gb}(h:x<=a):A9 x g a=g a:=if_neg (by omega)
theorem B8{x a:Nat}{g:Gb}{u:Blk}(h:A9 x g a=some u):x<=a/\g a=some u:=by
 unfold A9 at h;split at h
 .cases h
 .exact⟨by omega,h⟩
end Go.Ai
