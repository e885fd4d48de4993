/- A small verified interpreter over names, its proofs, and what was proved with it. No condition. -/
import Derived.Test.YtaaedmifnkghnaaDoorB9
set_option linter.all false
set_option linter.deprecated false
section
namespace Go.Ai
open Go.Proofs
set_option maxRecDepth 100000
def gr11 : List Fact := [
  ⟨28, [.lit (.string ⟨#[69,70,32,115,116,97,116,101,32,50]⟩),.sl 2781 0 3 3], bs42, vI .i64 1⟩,
  ⟨28, [.lit (.string ⟨#[65,70,32,115,116,97,116,101,32,50]⟩),.sl 2782 0 3 3], bs43, vI .i64 1⟩,
  ⟨28, [.lit (.string ⟨#[69,71,32,110,111,116,32,115,116,97,116,101,32,50]⟩),.sl 2783 0 3 3], bs44, vI .i64 1⟩,
  ⟨28, [.lit (.string ⟨#[65,71,32,99,97,110,32,48]⟩),.sl 2784 0 3 3], bs45, vI .i64 1⟩,
  ⟨28, [.lit (.string ⟨#[65,88,32,115,116,97,116,101,32,48]⟩),.sl 2785 0 3 3], bs46, vI .i64 1⟩,
  ⟨28, [.lit (.string ⟨#[103,105,118,101,115,32,48,32,49]⟩),.sl 2786 0 3 3], bs47, vI .i64 1⟩,
  ⟨28, [.lit (.string ⟨#[69,91,99,97,110,32,48,32,85,32,115,116,97,116,101,32,50,93]⟩),.sl 2787 0 3 3], bs48, vI .i64 1⟩,
  ⟨28, [.lit (.string ⟨#[65,91,99,97,110,32,48,32,85,32,115,116,97,116,101,32,50,93]⟩),.sl 2788 0 3 3], bs49, vI .i64 1⟩]
theorem gr11_run : factsRun 6 30000 (callF Tryd.prog (withO (gr6 ++ gr9 ++ gr10) ([])) 10000) gr11 = true := by kernel_rfl
theorem gr11_good : FactGood 6 Tryd.prog gr11 := .run (callF_ok (withO_ok (((gr6_good).append gr9_good).append gr10_good) (CutGood.nil)) hG0 10000) gr11_run
def gr12 : List Fact := [
  ⟨29, [.lit (.string ⟨#[69,70,32,115,116,97,116,101,32,50]⟩),vI .i64 1,vM .i64 0,.sl 2789 0 2 2], bs50, vI .i64 1⟩,
  ⟨29, [.lit (.string ⟨#[69,71,32,110,111,116,32,115,116,97,116,101,32,50]⟩),vI .i64 0,vI .i64 0,.sl 2790 0 2 2], bs51, vI .i64 1⟩,
  ⟨29, [.lit (.string ⟨#[69,71,32,116,114,117,101]⟩),vI .i64 2,vM .i64 0,.lit (.slice none 0 0)], glob0, vI .i64 1⟩]
theorem gr12_run : factsRun 6 30000 (callF Tryd.prog (withO (gr6 ++ gr9 ++ gr10) ([])) 10000) gr12 = true := by kernel_rfl
theorem gr12_good : FactGood 6 Tryd.prog gr12 := .run (callF_ok (withO_ok (((gr6_good).append gr9_good).append gr10_good) (CutGood.nil)) hG0 10000) gr12_run
end Go.Ai
end
