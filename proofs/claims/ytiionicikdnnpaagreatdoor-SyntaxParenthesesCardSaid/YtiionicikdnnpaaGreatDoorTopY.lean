/- Imports for the joined base of the Syntax claims. -/
import Derived.Test.YtiionicikdnnpaaGreatDoorCanA
import Derived.Test.YtiionicikdnnpaaGreatDoorCardC
import Derived.Test.YtiionicikdnnpaaGreatDoorAppAll

