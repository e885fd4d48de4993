/- FormulasSat OF CHAPTER 33 HOLDS as its card says it: for every formula as data the call returns true, and the argument reads as before. No condition. -/
import Derived.Test.YtfllomlghjolpaaDoorS13
import Derived.Test.YtfllomlghjolpaaDoorS14
set_option linter.all false
set_option linter.deprecated false
section
namespace Go.Proofs.YtfllomlghjolpaaDoor
open Go Go.Ai
theorem formulasSat_holds:Rows.FormulasSatCardSaid:=cardS lives_run
end Go.Proofs.YtfllomlghjolpaaDoor
end
