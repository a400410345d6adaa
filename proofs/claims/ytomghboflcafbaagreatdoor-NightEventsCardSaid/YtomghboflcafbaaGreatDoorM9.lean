/- NightEventsCardSaid holds, without conditions. -/
import Derived.Test.YtomghboflcafbaaGreatDoorM8
import Derived.Test.YtomghboflcafbaaGreatDoorS10
set_option linter.unusedVariables false
set_option linter.unusedSimpArgs false
set_option linter.unusedSectionVars false
section
namespace Go.Lens.Tb
open Go.Proofs Go.Proofs.YtomghboflcafbaaGreatDoor
theorem kL:Go.Proofs.YtomghboflcafbaaGreatDoor.Rows.NightEventsCardSaid:=nightEvents_card fun {_}=>Go.Lens.Tm.merge_ok
end Go.Lens.Tb
end
namespace Go.Proofs.YtomghboflcafbaaGreatDoor
theorem nightEvents_proved:Rows.NightEventsCardSaid:=Go.Lens.Tb.kL
#print axioms nightEvents_proved
end Go.Proofs.YtomghboflcafbaaGreatDoor
