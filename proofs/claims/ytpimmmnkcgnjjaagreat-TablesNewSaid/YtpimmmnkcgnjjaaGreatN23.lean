/- A small verified interpreter over names, its proofs, and what was proved with it. No condition. -/
import Derived.Test.YtpimmmnkcgnjjaaGreatN22
import Derived.Test.YtpimmmnkcgnjjaaGreatN08
set_option linter.all false
set_option linter.deprecated false
section
namespace Go.Ai
open Go.Proofs Go.ChangeShapes Go.WideShapes Go.ChangeAt Go.RowKit
set_option maxRecDepth 10000
variable {H:Type} {enc:TypeId×Value→H}
theorem startN {W:World} (hL:laidMetH Tryz.prog [] W) : ∃ (g:Nat→Option Blk) (n:Nat) (ρ:Rn),Sim W.heap.size 0 ρ ⟨.fn g,n⟩ W:=by
 obtain ⟨ρ,s,hno⟩:=start_sound hL rfl (show layG Tryz.prog [] (mem0 Tryz.prog)=some (mem0 Tryz.prog) from rfl)
 have s' : Sim W.heap.size 0 ρ ⟨.fn (mem0 Tryz.prog).get,(mem0 Tryz.prog).next⟩ W:=by rw [← hG] at s; exact s.toFn
 exact ⟨_,_,ρ,s'⟩
theorem calls_N {W:World} {v0 v1:Value} {d0 d1:DataW H} {p0 p1:List MemPlace} {base:Nat} (_h0:DataW.Trod enc Tryz.prog W 0 (fun _=>true) true 3 v0 d0 p0) (_h1:DataW.Trod enc Tryz.prog W 0 (fun _=>true) true 3 v1 d1 p1) (k0:Value.okWide Tryz.prog W .any base 3 v0) (k1:Value.okWide Tryz.prog W .any base 3 v1) (hL:laidMetH Tryz.prog [] W) :
  Calls Tryz.prog 3 #[v0,v1] W fun e W'=>e=.returned (.bool true)∧Below W.heap.size W W':=by
 have hk:∀ v,Value.okWide Tryz.prog W .any base 3 v→∃ x,v=.int .i64 x:=fun v k=>by
  simp only [Value.okWide,Tryz.underlying3] at k
  cases v <;> first | exact k.elim | (obtain ⟨rfl,_⟩:=k; exact ⟨_,rfl⟩)
 obtain ⟨x,rfl⟩:=hk _ k0
 obtain ⟨o,rfl⟩:=hk _ k1
 obtain ⟨g,n,ρ,s⟩:=startN hL
 refine ((tablesNew_w x o g n) W.heap.size ρ #[.int .i64 x,.int .i64 o] W s ⟨_,_,rfl,rfl,_,_,rfl,rfl,rfl⟩).mono ?_
 rintro e W' ⟨r,rfl,hcp⟩
 cases e with
 | returned u=>obtain ⟨ρ',q1,q2,q3,q4⟩:=hcp; exact ⟨congrArg _ q3,q1.below⟩
 | _=>exact hcp.elim
end Go.Ai
end
