/- A small verified interpreter over names, its proofs, and what was proved with it. No condition. -/
import Derived.Test.YtaaedmifnkghnaaDoorB10
set_option linter.all false
set_option linter.deprecated false
section
namespace Go.Ai
open Go.Proofs
set_option maxRecDepth 100000
def gr13 : List Cut := [
  ⟨6, 388, [.agg [vI .i64 1,vI .i64 1,.slq 200 0 64 0],.agg [vI .u8 8,vI .i64 0,vI .i64 0,.sl 380 0 1 1],vI .i64 0], bs28, .tup [.sl 852 0 63 63,vM .i64 0,vI .i64 0], [(852, .cells [vI .i64 0,vI .i64 0,vI .i64 0,vI .i64 0,vI .i64 0,vI .i64 0,vI .i64 0,vI .i64 0,vI .i64 0,vI .i64 0,vI .i64 0,vI .i64 0,vI .i64 0,vI .i64 0,vI .i64 0,vI .i64 0,vI .i64 0,vI .i64 0,vI .i64 0,vI .i64 0,vI .i64 0,vI .i64 0,vI .i64 0,vI .i64 0,vI .i64 0,vI .i64 0,vI .i64 0,vI .i64 0,vI .i64 0,vI .i64 0,vI .i64 0,vI .i64 0,vI .i64 0,vI .i64 0,vI .i64 0,vI .i64 0,vI .i64 0,vI .i64 0,vI .i64 0,vI .i64 0,vI .i64 0,vI .i64 0,vI .i64 0,vI .i64 0,vI .i64 0,vI .i64 0,vI .i64 0,vI .i64 0,vI .i64 0,vI .i64 0,vI .i64 0,vI .i64 0,vI .i64 0,vI .i64 0,vI .i64 0,vI .i64 0,vI .i64 0,vI .i64 0,vI .i64 0,vI .i64 0,vI .i64 0,vI .i64 0,vI .i64 0] true 1)], 853⟩]
theorem gr13_run : cutsRun (callF Tryd.prog (withO (gr4 ++ gr5 ++ gr6 ++ gr9) ([])) 10000) gr13 = true := by kernel_rfl
theorem gr13_good : CutGood 6 Tryd.prog gr13 := .run (callF_ok (withO_ok ((((gr4_good).append gr5_good).append gr6_good).append gr9_good) (CutGood.nil)) hG0 10000) gr13_run
def gr14 : List Fact := [
  ⟨11, [], glob0, vB true⟩]
theorem gr14_run : factsRun 6 30000 (callF Tryd.prog (withO (gr2 ++ gr6 ++ gr9 ++ gr11 ++ gr12) ([])) 10000) gr14 = true := by kernel_rfl
theorem gr14_good : FactGood 6 Tryd.prog gr14 := .run (callF_ok (withO_ok (((((gr2_good).append gr6_good).append gr9_good).append gr11_good).append gr12_good) (CutGood.nil)) hG0 10000) gr14_run
end Go.Ai
end
