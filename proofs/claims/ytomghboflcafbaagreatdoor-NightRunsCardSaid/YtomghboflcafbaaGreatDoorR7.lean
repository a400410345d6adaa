/- NightRunsCardSaid holds, without conditions. -/
import Derived.Test.YtomghboflcafbaaGreatDoorR6
import Derived.Test.YtomghboflcafbaaGreatDoorS10
set_option linter.unusedVariables false
set_option linter.unusedSimpArgs false
section
namespace Go.Lens.Tb
open Go.Proofs Go.Proofs.YtomghboflcafbaaGreatDoor
theorem nightRuns_proved : Go.Proofs.YtomghboflcafbaaGreatDoor.Rows.NightRunsCardSaid := nightRuns_card fun {_} => Go.Lens.Tm.merge_ok
end Go.Lens.Tb
end
namespace Go.Proofs.YtomghboflcafbaaGreatDoor
theorem nightRuns_proved : Rows.NightRunsCardSaid := Go.Lens.Tb.nightRuns_proved
#print axioms nightRuns_proved
end Go.Proofs.YtomghboflcafbaaGreatDoor
