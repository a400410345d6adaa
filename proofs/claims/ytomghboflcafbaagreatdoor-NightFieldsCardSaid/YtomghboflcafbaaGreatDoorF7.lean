/- NightFieldsCardSaid holds, without conditions. -/
import Derived.Test.YtomghboflcafbaaGreatDoorF6
import Derived.Test.YtomghboflcafbaaGreatDoorS10
set_option linter.unusedVariables false
set_option linter.unusedSimpArgs false
section
namespace Go.Lens.Tb
open Go.Proofs Go.Proofs.YtomghboflcafbaaGreatDoor
theorem nightFields_proved : Go.Proofs.YtomghboflcafbaaGreatDoor.Rows.NightFieldsCardSaid := nightFields_card fun {_} => Go.Lens.Tm.merge_ok
end Go.Lens.Tb
end
namespace Go.Proofs.YtomghboflcafbaaGreatDoor
theorem nightFields_proved : Rows.NightFieldsCardSaid := Go.Lens.Tb.nightFields_proved
#print axioms nightFields_proved
end Go.Proofs.YtomghboflcafbaaGreatDoor
