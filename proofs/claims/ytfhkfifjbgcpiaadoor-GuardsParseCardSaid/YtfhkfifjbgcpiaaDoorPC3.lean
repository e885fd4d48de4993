/- A small verified interpreter over names, its proofs, and what was proved with it. No condition. -/
import Derived.Test.YtfhkfifjbgcpiaaDoorPC2
set_option linter.all false
set_option linter.deprecated false
section
namespace Go.Ai
open Go.Proofs
set_option maxRecDepth 10000
set_option maxHeartbeats 4000000
def s45:List AV→Mem→COut | [.lit (.bool b)],H=>.ret (.lit (.int .i64 (truthM b))) H | _,_=>.bad
theorem s45_eq {b:Bool} {H:Mem} : s45 [.lit (.bool b)] H=.ret (.lit (.int .i64 (truthM b))) H:=rfl
attribute [simp] s45_eq
theorem min_truth {a b:Bool} : (if truthM b < truthM a then truthM b else truthM a)=truthM (a && b):=by cases a <;> cases b <;> rfl
theorem min_truth1 {b:Bool} : (if truthM b < 1 then truthM b else 1)=truthM b:=by cases b <;> rfl
theorem truth_zero {b:Bool} : (truthM b=0)=(b=false):=by cases b <;> simp [truthM]
theorem truth_true:truthM true=1:=rfl
theorem truth_false:truthM false=0:=rfl
attribute [simp] min_truth min_truth1 truth_zero truth_true truth_false
theorem subs0 (op:Nat) (h:op < 2) : (rowAt op).subs=0:=by
  have hop:op=0∨op=1:=by omega
  rcases hop with rfl | rfl <;> rfl
theorem subs1 (op:Nat) (h2:2≤op) (h12:op < 12) (h:(rowAt op).subs=1) : op=2∨op=9:=by
  have h' : ([2,3,4,5,6,7,8,9,10,11].all fun op=>!decide ((rowAt op).subs=1) || (decide (op=2) || decide (op=9)))=true:=by decide
  have:=List.all_eq_true.1 h' op (by simp; omega)
  simpa [h] using this
theorem subs2 (op:Nat) (h2:2≤op) (h12:op < 12) (h:(rowAt op).subs=2) : op=3∨op=4∨op=5∨op=6∨op=7∨op=8∨op=10∨op=11:=by
  have hop:op=2∨op=3∨op=4∨op=5∨op=6∨op=7∨op=8∨op=9∨op=10∨op=11:=by omega
  rcases hop with rfl | rfl | rfl | rfl | rfl | rfl | rfl | rfl | rfl | rfl <;> first | omega | (exact absurd h (by decide))
end Go.Ai
end
