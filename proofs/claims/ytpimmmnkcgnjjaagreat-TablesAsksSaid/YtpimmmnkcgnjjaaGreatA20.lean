/- Parts of an interpreter and of a proof. No condition. -/
import Derived.Test.YtpimmmnkcgnjjaaGreatA19
set_option linter.all false
set_option maxRecDepth 100000
open Go.Proofs Go.Proofs.Tryz
namespace Go.Ai
def gr0:List Gt:=[
 ⟨37,[.agg [vI .i64 2,vI .i64 2,.sl 2 0 1 1,.sl 3 0 2 2,vI .i64 2,vI .i64 2,.sl 18 0 1 1]],bs0,vI .i64 0⟩,
 ⟨37,[.agg [vI .i64 2,vI .i64 2,.sl 539 0 1 1,.sl 541 0 2 2,vI .i64 2,vI .i64 2,.sl 493 0 7 7]],bs1,vI .i64 0⟩,
 ⟨37,[.agg [vI .i64 2,vI .i64 2,.sl 741 0 2 2,.sl 715 0 2 2,vI .i64 2,vI .i64 2,.sl 717 0 7 7]],bs2,vI .i64 0⟩,
 ⟨37,[.agg [vI .i64 2,vI .i64 2,.sl 1598 0 2 2,.sl 1600 0 2 2,vI .i64 2,vI .i64 2,.sl 1528 0 11 11]],bs3,vI .i64 0⟩,
 ⟨37,[.agg [vI .i64 1,vI .i64 2,.sl 2864 0 1 1,.sl 2865 0 1 1,vI .i64 1,vI .i64 2,.sl 2879 0 1 1]],bs4,vI .i64 0⟩,
 ⟨37,[.agg [vI .i64 1,vI .i64 2,.sl 2969 0 1 1,.sl 2971 0 1 1,vI .i64 1,vI .i64 2,.sl 2950 0 3 3]],bs5,vI .i64 0⟩,
 ⟨37,[.agg [vI .i64 1,vI .i64 2,.sl 3437 0 1 1,.sl 3439 0 1 1,vI .i64 1,vI .i64 2,.sl 3413 0 4 4]],bs6,vI .i64 0⟩]
theorem gr0_run:a4h 0 30000 (Jx prog (Mp ([]) ([])) 10000) gr0=true:=by kernel_rfl
theorem gr0_good:Gu 0 prog gr0:=.run (Kw (N6 (Gu.nil) (Ek.nil)) hG0 10000) gr0_run
def gr1:List Cut:=[
 ⟨19,120,[.agg [vI .i64 2,vI .i64 2,.sl 2 0 1 1,.sl 3 0 2 2,vI .i64 2,vI .i64 2,.sl 18 0 1 1],.agg [vI .i64 2,vI .i64 2,.sl 119 0 2 2]],bs7,.agg [vI .i64 2,vI .i64 2,.sl 539 0 1 1,.sl 541 0 2 2,vI .i64 2,vI .i64 2,.sl 493 0 7 7],[(531,.cells [vM .i64 0,vM .i64 0,vM .i64 0,vM .i64 0] true 2),(526,.cells [vM .i64 0,vM .i64 0,vM .i64 0,vM .i64 0] true 2),(521,.cells [vM .i64 0,vM .i64 0,vM .i64 0,vM .i64 0] true 2),(516,.cells [vM .i64 0,vM .i64 0,vM .i64 0,vM .i64 0] true 2),(509,.cells [vI .i64 5,vI .i64 0,vI .i64 6,vI .i64 0] true 2),(502,.cells [vI .i64 3,vI .i64 1,vI .i64 4,vI .i64 0] true 2),(495,.cells [vI .i64 1,vI .i64 0,vI .i64 2,vI .i64 0] true 2),(493,.cells [.sl 495 0 2 2,.sl 502 0 2 2,.sl 509 0 2 2,.sl 516 0 2 2,.sl 521 0 2 2,.sl 526 0 2 2,.sl 531 0 2 2] true 0),(548,.cells [vI .i64 1] true 1),(546,.cells [vI .i64 0] true 1),(541,.cells [.sl 546 0 1 1,.sl 548 0 1 1] true 1),(544,.cells [] true 0),(539,.cells [.sl 544 0 0 0] true 1)],553⟩]
theorem gr1_run:N5 (Jx prog (Mp (gr0) ([])) 10000) gr1=true:=by kernel_rfl
theorem gr1_good:Ek 0 prog gr1:=.run (Kw (N6 (gr0_good) (Ek.nil)) hG0 10000) gr1_run
def gr2:List Cut:=[
 ⟨22,1208,[.agg [vI .i64 2,vI .i64 2,.sl 741 0 2 2,.sl 715 0 2 2,vI .i64 2,vI .i64 2,.sl 717 0 7 7],.agg [vI .i64 2,vI .i64 2,.sl 1068 0 4 4]],bs8,.tup [.agg [vI .i64 2,vI .i64 2,.sl 1598 0 2 2,.sl 1600 0 2 2,vI .i64 2,vI .i64 2,.sl 1528 0 11 11],vI .i64 0],[(1590,.cells [vM .i64 0,vM .i64 0,vM .i64 0,vM .i64 0] true 2),(1585,.cells [vM .i64 0,vM .i64 0,vM .i64 0,vM .i64 0] true 2),(1580,.cells [vM .i64 0,vM .i64 0,vM .i64 0,vM .i64 0] true 2),(1575,.cells [vM .i64 0,vM .i64 0,vM .i64 0,vM .i64 0] true 2),(1570,.cells [vM .i64 0,vM .i64 0,vM .i64 0,vM .i64 0] true 2),(1565,.cells [vM .i64 0,vM .i64 0,vM .i64 0,vM .i64 0] true 2),(1558,.cells [vI .i64 9,vI .i64 1,vI .i64 10,vI .i64 0] true 2),(1551,.cells [vI .i64 7,vI .i64 0,vI .i64 8,vI .i64 0] true 2),(1544,.cells [vI .i64 5,vI .i64 0,vI .i64 6,vI .i64 0] true 2),(1537,.cells [vI .i64 3,vI .i64 1,vI .i64 4,vI .i64 0] true 2),(1530,.cells [vI .i64 1,vI .i64 0,vI .i64 2,vI .i64 0] true 2),(1528,.cells [.sl 1530 0 2 2,.sl 1537 0 2 2,.sl 1544 0 2 2,.sl 1551 0 2 2,.sl 1558 0 2 2,.sl 1565 0 2 2,.sl 1570 0 2 2,.sl 1575 0 2 2,.sl 1580 0 2 2,.sl 1585 0 2 2,.sl 1590 0 2 2] true 0),(1609,.cells [vI .i64 1] true 1),(1607,.cells [vI .i64 0] true 1),(1600,.cells [.sl 1607 0 1 1,.sl 1609 0 1 1] true 1),(1605,.cells [vI .i64 0] true 1),(1603,.cells [] true 0),(1598,.cells [.sl 1603 0 0 0,.sl 1605 0 1 1] true 1)],1625⟩]
theorem gr2_run:N5 (Jx prog (Mp (gr0) ([])) 10000) gr2=true:=by kernel_rfl
theorem gr2_good:Ek 0 prog gr2:=.run (Kw (N6 (gr0_good) (Ek.nil)) hG0 10000) gr2_run
end Go.Ai
