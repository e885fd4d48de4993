/- A small verified interpreter over names, its proofs, and what was proved with it. No condition. -/
import Derived.Test.YtfhkfifjbgcpiaaDoorPC3
set_option linter.all false
set_option linter.deprecated false
section
namespace Go.Ai
open Go.Proofs
set_option maxRecDepth 10000
theorem numbers_op (op:Nat) (h2:2≤op) (h12:op < 12) : (rowAt op).numbers=decide (op < 9):=by
  have hop:op=2∨op=3∨op=4∨op=5∨op=6∨op=7∨op=8∨op=9∨op=10∨op=11:=by omega
  rcases hop with rfl | rfl | rfl | rfl | rfl | rfl | rfl | rfl | rfl | rfl <;> rfl
end Go.Ai
end
section
namespace Go.Ai
open Go.Proofs
set_option maxRecDepth 10000
set_option maxHeartbeats 4000000
theorem refCond_w (x:NodeM) (g:Nat→Option Blk) (n:Nat) (cs:List AV) (hrep:repN g n x cs) :
    WC 6 Tryd.prog 19 [.agg cs] ⟨.fn g,n⟩ fun r=>r=.ret (.lit (.int .i64 (truthM (decide (6≤x.op))))) ⟨.fn g,n⟩:=by
  refine WC.drop1 rfl ?_
  obtain ⟨k2,sv2,hcy,h1c,hop2⟩:=repN_op hrep
  subst hcy
  have h1a:allOne [.lit (.int .u8 x.op),.lit (.int .i64 k2),sv2]=true:=by simp [h1c]
  clear hrep
  generalize x.op=op at h1a hop2
  by_cases h6:6≤op
  · have h6i:(6:Int)≤(op:Int):=by omega
    refine WC.enterP (noO_ok _ _) hG6 [] Tryd.func19 rfl (by decide +kernel) (Nat.le_of_ble_eq_true (by kernel_rfl)) ?_
    iterate 12 (all_goals try (first | with_reducible refine splitI (fun h=>?_) (fun h=>?_) | with_reducible refine splitBI (fun h=>?_) (fun h=>?_) | simp (disch:=first | assumption | omega | (simp; done) | fail) [Tryd.results19, *]))
    all_goals exact ⟨Nat.le_succ _,fun b hb=>gput_lt hb⟩
  · have h6i:¬(6:Int)≤(op:Int):=by omega
    refine WC.enterP (noO_ok _ _) hG6 [] Tryd.func19 rfl (by decide +kernel) (Nat.le_of_ble_eq_true (by kernel_rfl)) ?_
    iterate 12 (all_goals try (first | with_reducible refine splitI (fun h=>?_) (fun h=>?_) | with_reducible refine splitBI (fun h=>?_) (fun h=>?_) | simp (disch:=first | assumption | omega | (simp; done) | fail) [Tryd.results19, *]))
    all_goals exact ⟨Nat.le_succ _,fun b hb=>gput_lt hb⟩
def nmX:ByteArray:=⟨#[120]⟩
def nmY:ByteArray:=⟨#[121]⟩
def nmB:ByteArray:=⟨#[98,105,103,95,49]⟩
def varsE:List VarM:=[⟨nmX,0,9⟩,⟨nmY,-5,5⟩,⟨nmB,-2147483648,2147483648⟩]
theorem Vars_w (g:Nat→Option Blk) (n:Nat) : WC 6 Tryd.prog 12 [] ⟨.fn g,n⟩ fun r=>r=.ret (.sl n 0 3 3) ⟨.fn (gput g n (some (.cells (varsE.flatMap VarM.cells) true 0))),n+1⟩:=by
  refine WC.enterP (noO_ok _ _) hG6 [] Tryd.func12 rfl (by decide +kernel) (Nat.le_of_ble_eq_true (by kernel_rfl)) ?_
  iterate 12 (all_goals try (first | with_reducible refine splitI (fun h=>?_) (fun h=>?_) | with_reducible refine splitBI (fun h=>?_) (fun h=>?_) | simp (disch:=first | assumption | omega | (simp; done) | fail) [Tryd.results12, *]))
  rfl
end Go.Ai
end
