/- NightScriptsCardSaid holds, without conditions. -/
import Derived.Test.YtomghboflcafbaaGreatDoorH7
import Derived.Test.YtomghboflcafbaaGreatDoorS10
set_option linter.unusedVariables false
set_option linter.unusedSimpArgs false
section
namespace Go.Lens.Tb
open Go.Proofs Go.Proofs.YtomghboflcafbaaGreatDoor
theorem nightScripts_proved : Go.Proofs.YtomghboflcafbaaGreatDoor.Rows.NightScriptsCardSaid := nightScripts_card fun {_} => Go.Lens.Tm.merge_ok
end Go.Lens.Tb
end
namespace Go.Proofs.YtomghboflcafbaaGreatDoor
theorem nightScripts_proved : Rows.NightScriptsCardSaid := Go.Lens.Tb.nightScripts_proved
#print axioms nightScripts_proved
end Go.Proofs.YtomghboflcafbaaGreatDoor
