/- FormulasDual OF CHAPTER 33 HOLDS as its card says it: for every two formulas as data the call returns true, and the arguments read as before. No condition. -/
import Derived.Test.YtfllomlghjolpaaDoorD14
import Derived.Test.YtfllomlghjolpaaDoorD15
set_option linter.all false
set_option linter.deprecated false
section
namespace Go.Proofs.YtfllomlghjolpaaDoor
open Go Go.Ai
theorem formulasDual_holds:Rows.FormulasDualCardSaid:=cardD lives_run
end Go.Proofs.YtfllomlghjolpaaDoor
end
