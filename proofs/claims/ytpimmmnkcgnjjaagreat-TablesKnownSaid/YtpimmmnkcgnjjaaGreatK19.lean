/- Parts of an interpreter and of a proof. No condition. -/
import Derived.Test.YtpimmmnkcgnjjaaGreatK18
set_option linter.all false
set_option maxRecDepth 100000
open Go.Proofs Go.Proofs.Tryz
namespace Go.Ai
def gr3:List Cut:=[
 ⟨31,1917,[.agg [vI .i64 2,vI .i64 2,.sl 1598 0 2 2,.sl 1600 0 2 2,vI .i64 2,vI .i64 2,.sl 1528 0 11 11]],bs3,.tup [.agg [vI .i64 2,vI .i64 2,.sl 2209 0 2 2],vI .i64 0],[(2290,.cells [vI .i64 0,vI .i64 1,vI .i64 1,vI .i64 0] true 0),(2214,.cells [vI .i64 1,vI .i64 0,vI .i64 0,vI .i64 0] true 0),(2209,.cells [.sl 2214 0 2 2,.sl 2290 0 2 2] true 0)],2377⟩,
 ⟨31,2382,[.agg [vI .i64 2,vI .i64 2,.sl 1598 0 2 2,.sl 1600 0 2 2,vI .i64 2,vI .i64 2,.sl 1528 0 11 11]],bs3,.tup [.agg [vI .i64 2,vI .i64 2,.sl 2674 0 2 2],vI .i64 0],[(2755,.cells [vI .i64 0,vI .i64 1,vI .i64 1,vI .i64 0] true 0),(2679,.cells [vI .i64 1,vI .i64 0,vI .i64 0,vI .i64 0] true 0),(2674,.cells [.sl 2679 0 2 2,.sl 2755 0 2 2] true 0)],2842⟩]
theorem gr3_run:Nx (Jv prog (Mh (gr0) ([])) 10000) gr3=true:=by kernel_rfl
theorem gr3_good:D6 0 prog gr3:=.run (Ku (Ny (gr0_good) (D6.nil)) hG0 10000) gr3_run
def gr4:List Cut:=[
 ⟨19,899,[.agg [vI .i64 2,vI .i64 2,.sl 741 0 2 2,.sl 715 0 2 2,vI .i64 2,vI .i64 2,.sl 717 0 7 7],.agg [vI .i64 2,vI .i64 2,.sl 898 0 2 2]],bs9,.agg [vI .i64 2,vI .i64 2,.sl 1598 0 2 2,.sl 1600 0 2 2,vI .i64 2,vI .i64 2,.sl 1528 0 11 11],[(1590,.cells [vM .i64 0,vM .i64 0,vM .i64 0,vM .i64 0] true 2),(1585,.cells [vM .i64 0,vM .i64 0,vM .i64 0,vM .i64 0] true 2),(1580,.cells [vM .i64 0,vM .i64 0,vM .i64 0,vM .i64 0] true 2),(1575,.cells [vM .i64 0,vM .i64 0,vM .i64 0,vM .i64 0] true 2),(1570,.cells [vM .i64 0,vM .i64 0,vM .i64 0,vM .i64 0] true 2),(1565,.cells [vM .i64 0,vM .i64 0,vM .i64 0,vM .i64 0] true 2),(1558,.cells [vI .i64 9,vI .i64 1,vI .i64 10,vI .i64 0] true 2),(1551,.cells [vI .i64 7,vI .i64 0,vI .i64 8,vI .i64 0] true 2),(1544,.cells [vI .i64 5,vI .i64 0,vI .i64 6,vI .i64 0] true 2),(1537,.cells [vI .i64 3,vI .i64 1,vI .i64 4,vI .i64 0] true 2),(1530,.cells [vI .i64 1,vI .i64 0,vI .i64 2,vI .i64 0] true 2),(1528,.cells [.sl 1530 0 2 2,.sl 1537 0 2 2,.sl 1544 0 2 2,.sl 1551 0 2 2,.sl 1558 0 2 2,.sl 1565 0 2 2,.sl 1570 0 2 2,.sl 1575 0 2 2,.sl 1580 0 2 2,.sl 1585 0 2 2,.sl 1590 0 2 2] true 0),(1609,.cells [vI .i64 1] true 1),(1607,.cells [vI .i64 0] true 1),(1600,.cells [.sl 1607 0 1 1,.sl 1609 0 1 1] true 1),(1605,.cells [vI .i64 0] true 1),(1603,.cells [] true 0),(1598,.cells [.sl 1603 0 0 0,.sl 1605 0 1 1] true 1)],1626⟩]
theorem gr4_run:Nx (Jv prog (Mh (gr0) (gr2)) 10000) gr4=true:=by kernel_rfl
theorem gr4_good:D6 0 prog gr4:=.run (Ku (Ny (gr0_good) (gr2_good)) hG0 10000) gr4_run
def gr5:List Cut:=[
 ⟨40,2380,[.agg [vI .i64 2,vI .i64 2,.sl 1598 0 2 2,.sl 1600 0 2 2,vI .i64 2,vI .i64 2,.sl 1528 0 11 11],.agg [.sl 2378 0 2 2,.sl 2379 0 2 2]],bs10,.tup [.nl,vI .i64 7],[],2856⟩]
theorem gr5_run:Nx (Jv prog (Mh ([]) (gr3)) 10000) gr5=true:=by kernel_rfl
theorem gr5_good:D6 0 prog gr5:=.run (Ku (Ny (Gu.nil) (gr3_good)) hG0 10000) gr5_run
end Go.Ai
