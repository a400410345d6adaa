/- NightPlansCardSaid holds, without conditions. -/
import Derived.Test.YtomghboflcafbaaGreatDoorB6
import Derived.Test.YtomghboflcafbaaGreatDoorS10
set_option linter.unusedVariables false
set_option linter.unusedSimpArgs false
section
namespace Go.Lens.Tb
open Go.Proofs Go.Proofs.YtomghboflcafbaaGreatDoor
theorem nightPlans_proved : Go.Proofs.YtomghboflcafbaaGreatDoor.Rows.NightPlansCardSaid := nightPlans_card fun {_} => Go.Lens.Tm.merge_ok
end Go.Lens.Tb
end
namespace Go.Proofs.YtomghboflcafbaaGreatDoor
theorem nightPlans_proved : Rows.NightPlansCardSaid := Go.Lens.Tb.nightPlans_proved
#print axioms nightPlans_proved
end Go.Proofs.YtomghboflcafbaaGreatDoor
