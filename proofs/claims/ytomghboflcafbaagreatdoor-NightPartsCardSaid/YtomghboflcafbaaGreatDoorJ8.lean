/- NightPartsCardSaid holds, without conditions. -/
import Derived.Test.YtomghboflcafbaaGreatDoorJ7
import Derived.Test.YtomghboflcafbaaGreatDoorS10
set_option linter.unusedVariables false
set_option linter.unusedSimpArgs false
section
namespace Go.Lens.Tb
open Go.Proofs Go.Proofs.YtomghboflcafbaaGreatDoor
theorem nightParts_proved : Go.Proofs.YtomghboflcafbaaGreatDoor.Rows.NightPartsCardSaid := nightParts_card fun {_} => Go.Lens.Tm.merge_ok
end Go.Lens.Tb
end
namespace Go.Proofs.YtomghboflcafbaaGreatDoor
theorem nightParts_proved : Rows.NightPartsCardSaid := Go.Lens.Tb.nightParts_proved
#print axioms nightParts_proved
end Go.Proofs.YtomghboflcafbaaGreatDoor
