/- NightLogsCardSaid holds, without conditions. -/
import Derived.Test.YtomghboflcafbaaGreatDoorL7
import Derived.Test.YtomghboflcafbaaGreatDoorS10
set_option linter.unusedVariables false
set_option linter.unusedSimpArgs false
section
namespace Go.Lens.Tb
open Go.Proofs Go.Proofs.YtomghboflcafbaaGreatDoor
theorem nightLogs_proved:Go.Proofs.YtomghboflcafbaaGreatDoor.Rows.NightLogsCardSaid:=nightLogs_card fun {_}=>Go.Lens.Tm.merge_ok
end Go.Lens.Tb
end
namespace Go.Proofs.YtomghboflcafbaaGreatDoor
theorem nightLogs_proved:Rows.NightLogsCardSaid:=Go.Lens.Tb.nightLogs_proved
#print axioms nightLogs_proved
end Go.Proofs.YtomghboflcafbaaGreatDoor
