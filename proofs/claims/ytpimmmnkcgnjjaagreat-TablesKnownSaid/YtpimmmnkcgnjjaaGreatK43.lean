/- Parts of an interpreter and of a proof. No condition. -/
import Derived.Test.YtpimmmnkcgnjjaaGreatK42
import Derived.Test.YtpimmmnkcgnjjaaGreatK07
set_option linter.all false
set_option maxRecDepth 10000
open Go.Proofs Go.Proofs.Tryz
namespace Go.Ai
section
open Go.ChangeShapes Go.WideShapes Go.ChangeAt Go.RowKit
theorem e5p{W:World}(h:laidMetH prog [] W):∃(g:Gb)(n:Nat)(f:Rn),Sim W.heap.size 0 f ⟨.fn g,n⟩ W:=by
 obtain⟨f,s,D⟩:=c3m h rfl (show Qw prog [] (Nd prog)=some (Nd prog) from rfl);have A:Sim W.heap.size 0 f ⟨.fn (Nd prog).get,(Nd prog).next⟩ W:=by rw[<- hG] at s;exact s.toFn
 exact⟨_,_,f,A⟩
theorem e5q{W:World}(A:laidMetH prog [] W):
  Calls prog 11 #[] W λe f=>e=.returned (.bool true)/\Below W.heap.size W f:=by
 obtain⟨g,n,D,s⟩:=e5p A;refine((e5o g n) W.heap.size D #[] W s rfl).mono ?_;rintro e f ⟨r,rfl,h⟩
 cases e with
 | returned u=>obtain⟨Z,Q,q2,U,q4⟩:=h;exact⟨congrArg _ U,Q.below⟩
 | _=>exact h.elim
end
end Go.Ai
