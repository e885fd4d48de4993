/- A small verified interpreter over names, its proofs, and what was proved with it. No condition. -/
import Derived.Test.YtaaedmifnkghnaaDoorB8
set_option linter.all false
set_option linter.deprecated false
section
namespace Go.Ai
open Go.Proofs
set_option maxRecDepth 100000
def gr9 : List Fact := [
  ⟨16, [.agg [vI .i64 1,vI .i64 1,.slq 200 0 64 0],.agg [vI .u8 13,vI .i64 0,vI .i64 0,.sl 251 0 1 1]], bs27, vI .i64 0⟩,
  ⟨16, [.agg [vI .i64 1,vI .i64 1,.slq 200 0 64 0],.agg [vI .u8 8,vI .i64 0,vI .i64 0,.sl 380 0 1 1]], bs28, vI .i64 0⟩,
  ⟨16, [.agg [vI .i64 1,vI .i64 1,.slq 200 0 64 0],.agg [vI .u8 9,vI .i64 0,vI .i64 0,.sl 854 0 1 1]], bs29, vI .i64 0⟩,
  ⟨16, [.agg [vI .i64 1,vI .i64 1,.slq 200 0 64 0],.agg [vI .u8 3,vI .i64 9999,vI .i64 0,.lit (.slice none 0 0)]], bs0, vI .i64 1⟩,
  ⟨16, [.agg [vI .i64 2,vI .i64 2,.sl 2824 0 3 3],.agg [vI .u8 8,vI .i64 0,vI .i64 0,.sl 2810 0 1 1]], bs30, vI .i64 0⟩,
  ⟨16, [.agg [vI .i64 2,vI .i64 2,.sl 2829 0 3 3],.agg [vI .u8 12,vI .i64 0,vI .i64 0,.sl 2815 0 1 1]], bs31, vI .i64 0⟩,
  ⟨16, [.agg [vI .i64 2,vI .i64 2,.sl 2838 0 3 3],.agg [vI .u8 9,vI .i64 0,vI .i64 0,.sl 2822 0 1 1]], bs32, vI .i64 0⟩,
  ⟨16, [.agg [vI .i64 2,vI .i64 2,.sl 2833 0 3 3],.agg [vI .u8 13,vI .i64 0,vI .i64 0,.sl 2819 0 1 1]], bs33, vI .i64 0⟩,
  ⟨16, [.agg [vI .i64 2,vI .i64 2,.sl 2831 0 3 3],.agg [vI .u8 11,vI .i64 0,vI .i64 0,.sl 2817 0 1 1]], bs34, vI .i64 0⟩,
  ⟨16, [.agg [vI .i64 2,vI .i64 2,.sl 2818 0 3 3],.agg [vI .u8 3,vI .i64 0,vI .i64 1,.lit (.slice none 0 0)]], bs6, vI .i64 0⟩,
  ⟨16, [.agg [vI .i64 2,vI .i64 2,.sl 2856 0 3 3],.agg [vI .u8 10,vI .i64 0,vI .i64 0,.sl 2839 0 2 2]], bs35, vI .i64 0⟩,
  ⟨16, [.agg [vI .i64 2,vI .i64 2,.sl 2861 0 3 3],.agg [vI .u8 14,vI .i64 0,vI .i64 0,.sl 2844 0 2 2]], bs36, vI .i64 0⟩,
  ⟨16, [.agg [vI .i64 2,vI .i64 2,.sl 2832 0 3 3],.agg [vI .u8 8,vI .i64 0,vI .i64 0,.sl 2818 0 1 1]], bs37, vI .i64 0⟩,
  ⟨16, [.agg [vI .i64 2,vI .i64 2,.sl 2845 0 3 3],.agg [vI .u8 9,vI .i64 0,vI .i64 0,.sl 2829 0 1 1]], bs38, vI .i64 0⟩,
  ⟨16, [.agg [vI .i64 2,vI .i64 2,.sl 2831 0 3 3],.agg [vI .u8 9,vI .i64 0,vI .i64 0,.sl 2817 0 1 1]], bs39, vI .i64 0⟩,
  ⟨16, [.agg [vI .i64 2,vI .i64 2,.sl 2796 0 3 3],.agg [vI .u8 7,vI .i64 0,vI .i64 0,.sl 2797 0 1 1]], bs40, vI .i64 0⟩,
  ⟨16, [.agg [vI .i64 17,vI .i64 0,.lit (.slice none 0 0)],.agg [vI .u8 3,vI .i64 9999,vI .i64 0,.lit (.slice none 0 0)]], glob0, vI .i64 3⟩,
  ⟨16, [.agg [vI .i64 1,vI .i64 1,.slq 200 0 64 0],.agg [vI .u8 15,vI .i64 0,vI .i64 0,.lit (.slice none 0 0)]], bs0, vI .i64 1⟩,
  ⟨16, [.agg [vI .i64 1,vI .i64 1,.slq 200 0 64 0],.agg [vI .u8 4,vI .i64 0,vI .i64 0,.sl 1712 0 1 1]], bs41, vI .i64 0⟩]
theorem gr9_run : factsRun 6 30000 (callF Tryd.prog (withO (gr0) ([])) 10000) gr9 = true := by kernel_rfl
theorem gr9_good : FactGood 6 Tryd.prog gr9 := .run (callF_ok (withO_ok (gr0_good) (CutGood.nil)) hG0 10000) gr9_run
def gr10 : List Fact := [
  ⟨38, [.agg [vI .i64 1,vI .i64 1,.slq 200 0 64 0,.sl 266 0 64 64,vI .u64 18446744073709551615]], bs14, vI .u64 0⟩,
  ⟨38, [.agg [vI .i64 1,vI .i64 1,.slq 200 0 64 0,.sl 860 0 64 64,vI .u64 18446744073709551615]], bs16, vI .u64 0⟩,
  ⟨38, [.agg [vI .i64 2,vI .i64 2,.sl 2829 0 3 3,.sl 2834 0 3 3,vI .u64 7]], bs18, vI .u64 4⟩,
  ⟨38, [.agg [vI .i64 2,vI .i64 2,.sl 2838 0 3 3,.sl 2843 0 3 3,vI .u64 7]], bs19, vI .u64 4⟩,
  ⟨38, [.agg [vI .i64 2,vI .i64 2,.sl 2861 0 3 3,.sl 2866 0 3 3,vI .u64 7]], bs23, vI .u64 4⟩,
  ⟨38, [.agg [vI .i64 2,vI .i64 2,.sl 2845 0 3 3,.sl 2850 0 3 3,vI .u64 7]], bs25, vI .u64 4⟩,
  ⟨38, [.agg [vI .i64 2,vI .i64 2,.sl 2831 0 3 3,.sl 2836 0 3 3,vI .u64 7]], bs21, vI .u64 4⟩]
theorem gr10_run : factsRun 6 30000 (callF Tryd.prog (withO (gr3 ++ gr6) ([])) 10000) gr10 = true := by kernel_rfl
theorem gr10_good : FactGood 6 Tryd.prog gr10 := .run (callF_ok (withO_ok ((gr3_good).append gr6_good) (CutGood.nil)) hG0 10000) gr10_run
end Go.Ai
end
