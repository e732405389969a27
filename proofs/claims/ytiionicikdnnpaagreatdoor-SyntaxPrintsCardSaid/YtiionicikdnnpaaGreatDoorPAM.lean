/- Texts of this seat, joined. -/
import Derived.Test.YtiionicikdnnpaaGreatDoorPS
import Derived.Test.YtiionicikdnnpaaGreatDoorPF
import Derived.WalkLawsBesides

