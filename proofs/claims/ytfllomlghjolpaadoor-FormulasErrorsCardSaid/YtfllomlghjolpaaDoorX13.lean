/- FormulasErrors OF CHAPTER 33 HOLDS as its card says it: for every machine, every node and every state the call returns true, and the arguments read as before. No condition. -/
import Derived.Test.YtfllomlghjolpaaDoorX11
import Derived.Test.YtfllomlghjolpaaDoorX12
set_option linter.all false
set_option linter.deprecated false
section
namespace Go.Proofs.YtfllomlghjolpaaDoor
open Go Go.Ai
theorem formulasErrors_holds:Rows.FormulasErrorsCardSaid:=cardX lives_run
end Go.Proofs.YtfllomlghjolpaaDoor
end
