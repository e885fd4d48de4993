/- A small verified interpreter over names, its proofs, and what was proved with it. No condition. -/
import Derived.Test.YtaaedmifnkghnaaDoorB11
set_option linter.all false
set_option linter.deprecated false
section
namespace Go.Ai
open Go.Proofs
set_option maxRecDepth 100000
def gr15 : List Fact := [
  ⟨9, [.agg [vI .i64 1,vI .i64 1,.slq 200 0 64 0],.agg [vI .u8 3,vI .i64 9999,vI .i64 0,.lit (.slice none 0 0)],vI .i64 0], bs0, vB true⟩,
  ⟨9, [.agg [vI .i64 17,vI .i64 0,.lit (.slice none 0 0)],.agg [vI .u8 3,vI .i64 9999,vI .i64 0,.lit (.slice none 0 0)],vI .i64 0], glob0, vB true⟩,
  ⟨9, [.agg [vI .i64 1,vI .i64 1,.slq 200 0 64 0],.agg [vI .u8 15,vI .i64 0,vI .i64 0,.lit (.slice none 0 0)],vM .i64 0], bs0, vB true⟩,
  ⟨9, [.agg [vI .i64 1,vI .i64 1,.slq 200 0 64 0],.agg [vI .u8 4,vI .i64 0,vI .i64 0,.sl 1712 0 1 1],vI .i64 64], bs41, vB true⟩]
theorem gr15_run : factsRun 6 30000 (callF Tryd.prog (withO (gr0 ++ gr1 ++ gr2 ++ gr9 ++ gr14) ([])) 10000) gr15 = true := by kernel_rfl
theorem gr15_good : FactGood 6 Tryd.prog gr15 := .run (callF_ok (withO_ok (((((gr0_good).append gr1_good).append gr2_good).append gr9_good).append gr14_good) (CutGood.nil)) hG0 10000) gr15_run
def gr16 : List Fact := [
  ⟨10, [.lit (.string ⟨#[40,40,40,40,69,91]⟩)], glob0, vB true⟩]
theorem gr16_run : factsRun 6 30000 (callF Tryd.prog (withO (gr14) ([])) 10000) gr16 = true := by kernel_rfl
theorem gr16_good : FactGood 6 Tryd.prog gr16 := .run (callF_ok (withO_ok (gr14_good) (CutGood.nil)) hG0 10000) gr16_run
end Go.Ai
end
