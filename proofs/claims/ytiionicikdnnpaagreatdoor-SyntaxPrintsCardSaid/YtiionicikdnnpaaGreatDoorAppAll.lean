/- Texts of this seat, joined. -/
import Derived.Test.YtiionicikdnnpaaGreatDoorPB
import Derived.Deep.AppendLies
import Derived.Laws.AppendOwnNone

