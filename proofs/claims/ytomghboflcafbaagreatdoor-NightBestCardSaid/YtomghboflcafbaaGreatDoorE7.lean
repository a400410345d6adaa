/- NightBestCardSaid holds, without conditions. -/
import Derived.Test.YtomghboflcafbaaGreatDoorE6
import Derived.Test.YtomghboflcafbaaGreatDoorS10
set_option linter.unusedVariables false
set_option linter.unusedSimpArgs false
section
namespace Go.Lens.Tb
open Go.Proofs Go.Proofs.YtomghboflcafbaaGreatDoor
theorem nightBest_proved : Go.Proofs.YtomghboflcafbaaGreatDoor.Rows.NightBestCardSaid := nightBest_card fun {_} => Go.Lens.Tm.merge_ok
end Go.Lens.Tb
end
namespace Go.Proofs.YtomghboflcafbaaGreatDoor
theorem nightBest_proved : Rows.NightBestCardSaid := Go.Lens.Tb.nightBest_proved
#print axioms nightBest_proved
end Go.Proofs.YtomghboflcafbaaGreatDoor
