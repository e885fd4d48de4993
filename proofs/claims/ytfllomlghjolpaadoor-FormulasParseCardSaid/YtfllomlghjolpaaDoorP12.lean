/- FormulasParse OF CHAPTER 33 HOLDS as its card says it: for every text the call returns true, and the argument reads as before. No condition. -/
import Derived.Test.YtfllomlghjolpaaDoorP10
import Derived.Test.YtfllomlghjolpaaDoorP11
set_option linter.all false
set_option linter.deprecated false
section
namespace Go.Proofs.YtfllomlghjolpaaDoor
open Go Go.Ai
theorem formulasParse_holds : Rows.FormulasParseCardSaid := cardP lives_run
end Go.Proofs.YtfllomlghjolpaaDoor
end
