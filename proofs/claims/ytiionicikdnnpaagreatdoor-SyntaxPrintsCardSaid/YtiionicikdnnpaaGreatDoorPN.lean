/- Texts of this seat, joined. -/
import Derived.Test.YtiionicikdnnpaaGreatDoorShelf
import Derived.Test.YtiionicikdnnpaaGreatDoorPL

