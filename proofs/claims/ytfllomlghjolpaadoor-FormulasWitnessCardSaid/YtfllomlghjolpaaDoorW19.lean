/- FormulasWitness OF CHAPTER 33 HOLDS as its card says it: for every formula as data, every choice of EX, EF, EG, E[U] and every state the call returns true, and the arguments read as before. No condition. -/
import Derived.Test.YtfllomlghjolpaaDoorW17
import Derived.Test.YtfllomlghjolpaaDoorW18
set_option linter.all false
set_option linter.deprecated false
section
namespace Go.Proofs.YtfllomlghjolpaaDoor
open Go Go.Ai
theorem formulasWitness_holds:Rows.FormulasWitnessCardSaid:=cardW lives_run
end Go.Proofs.YtfllomlghjolpaaDoor
end
