/- FormulasText OF CHAPTER 33 HOLDS as its card says it: for every formula as data the call returns true, and the argument reads as before. No condition. -/
import Derived.Test.YtfllomlghjolpaaDoorT12
import Derived.Test.YtfllomlghjolpaaDoorT13
set_option linter.all false
set_option linter.deprecated false
section
namespace Go.Proofs.YtfllomlghjolpaaDoor
open Go Go.Ai
theorem formulasText_holds : Rows.FormulasTextCardSaid := cardT lives_run
end Go.Proofs.YtfllomlghjolpaaDoor
end
