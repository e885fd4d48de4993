/- A small verified interpreter over names, its proofs, and what was proved with it. No condition. -/
import Derived.Test.YtaaedmifnkghnaaDoorB0
set_option linter.all false
set_option linter.deprecated false
section
namespace Go.Ai
open Go.Proofs
set_option maxRecDepth 100000
def gr0 : List Fact := [
  ⟨22, [.agg [vI .i64 1,vI .i64 1,.slq 200 0 64 0]], bs0, vI .i64 0⟩,
  ⟨22, [.agg [vI .i64 2,vI .i64 2,.sl 2824 0 3 3]], bs1, vI .i64 0⟩,
  ⟨22, [.agg [vI .i64 2,vI .i64 2,.sl 2829 0 3 3]], bs2, vI .i64 0⟩,
  ⟨22, [.agg [vI .i64 2,vI .i64 2,.sl 2838 0 3 3]], bs3, vI .i64 0⟩,
  ⟨22, [.agg [vI .i64 2,vI .i64 2,.sl 2833 0 3 3]], bs4, vI .i64 0⟩,
  ⟨22, [.agg [vI .i64 2,vI .i64 2,.sl 2831 0 3 3]], bs5, vI .i64 0⟩,
  ⟨22, [.agg [vI .i64 2,vI .i64 2,.sl 2818 0 3 3]], bs6, vI .i64 0⟩,
  ⟨22, [.agg [vI .i64 2,vI .i64 2,.sl 2856 0 3 3]], bs7, vI .i64 0⟩,
  ⟨22, [.agg [vI .i64 2,vI .i64 2,.sl 2861 0 3 3]], bs8, vI .i64 0⟩,
  ⟨22, [.agg [vI .i64 2,vI .i64 2,.sl 2832 0 3 3]], bs9, vI .i64 0⟩,
  ⟨22, [.agg [vI .i64 2,vI .i64 2,.sl 2845 0 3 3]], bs10, vI .i64 0⟩,
  ⟨22, [.agg [vI .i64 2,vI .i64 2,.sl 2796 0 3 3]], bs11, vI .i64 0⟩,
  ⟨22, [.agg [vI .i64 17,vI .i64 0,.lit (.slice none 0 0)]], glob0, vI .i64 3⟩]
theorem gr0_run : factsRun 6 30000 (callF Tryd.prog (withO ([]) ([])) 10000) gr0 = true := by kernel_rfl
theorem gr0_good : FactGood 6 Tryd.prog gr0 := .run (callF_ok (withO_ok (FactGood.nil) (CutGood.nil)) hG0 10000) gr0_run
def gr1 : List Fact := [
  ⟨23, [.agg [vI .u8 3,vI .i64 9999,vI .i64 0,.lit (.slice none 0 0)],vI .i64 64,vI .i64 1,vI .i64 1], glob0, vI .i64 1⟩,
  ⟨23, [.agg [vI .u8 3,vI .i64 9999,vI .i64 0,.lit (.slice none 0 0)],vI .i64 10000,vI .i64 10000,vI .i64 10000], glob0, vI .i64 0⟩,
  ⟨23, [.agg [vI .u8 15,vI .i64 0,vI .i64 0,.lit (.slice none 0 0)],vI .i64 64,vI .i64 1,vI .i64 1], glob0, vI .i64 1⟩,
  ⟨23, [.agg [vI .u8 15,vI .i64 0,vI .i64 0,.lit (.slice none 0 0)],vI .i64 10000,vI .i64 10000,vI .i64 10000], glob0, vI .i64 1⟩,
  ⟨23, [.agg [vI .u8 4,vI .i64 0,vI .i64 0,.sl 1712 0 1 1],vI .i64 64,vI .i64 1,vI .i64 1], bs12, vI .i64 0⟩,
  ⟨23, [.agg [vI .u8 4,vI .i64 0,vI .i64 0,.sl 1712 0 1 1],vI .i64 10000,vI .i64 10000,vI .i64 10000], bs12, vI .i64 0⟩]
theorem gr1_run : factsRun 6 30000 (callF Tryd.prog (withO ([]) ([])) 10000) gr1 = true := by kernel_rfl
theorem gr1_good : FactGood 6 Tryd.prog gr1 := .run (callF_ok (withO_ok (FactGood.nil) (CutGood.nil)) hG0 10000) gr1_run
end Go.Ai
end
