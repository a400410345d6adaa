/- NightSafeCardSaid holds, without conditions. -/
import Derived.Test.YtomghboflcafbaaGreatDoorO8
import Derived.Test.YtomghboflcafbaaGreatDoorS10
set_option linter.unusedVariables false
set_option linter.unusedSimpArgs false
set_option linter.unusedSectionVars false
section
namespace Go.Lens.Tb
open Go.Proofs Go.Proofs.YtomghboflcafbaaGreatDoor
theorem nightSafe_proved:Go.Proofs.YtomghboflcafbaaGreatDoor.Rows.NightSafeCardSaid:=nightSafe_card fun {_}=>Go.Lens.Tm.merge_ok
end Go.Lens.Tb
end
namespace Go.Proofs.YtomghboflcafbaaGreatDoor
theorem nightSafe_proved:Rows.NightSafeCardSaid:=Go.Lens.Tb.nightSafe_proved
#print axioms nightSafe_proved
end Go.Proofs.YtomghboflcafbaaGreatDoor
