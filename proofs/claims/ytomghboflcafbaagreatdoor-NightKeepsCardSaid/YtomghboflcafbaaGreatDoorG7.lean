/- NightKeepsCardSaid holds, without conditions. -/
import Derived.Test.YtomghboflcafbaaGreatDoorG6
import Derived.Test.YtomghboflcafbaaGreatDoorS10
set_option linter.unusedVariables false
set_option linter.unusedSimpArgs false
section
namespace Go.Lens.Tb
open Go.Proofs Go.Proofs.YtomghboflcafbaaGreatDoor
theorem nightKeeps_proved : Go.Proofs.YtomghboflcafbaaGreatDoor.Rows.NightKeepsCardSaid := nightKeeps_card fun {_} => Go.Lens.Tm.merge_ok
end Go.Lens.Tb
end
namespace Go.Proofs.YtomghboflcafbaaGreatDoor
theorem nightKeeps_proved : Rows.NightKeepsCardSaid := Go.Lens.Tb.nightKeeps_proved
#print axioms nightKeeps_proved
end Go.Proofs.YtomghboflcafbaaGreatDoor
