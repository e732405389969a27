/- What StepCompiles leans on. -/
import Derived.Test.YtiionicikdnnpaaGreatDoorWrL
import Derived.Test.YtiionicikdnnpaaGreatDoorCAM
import Derived.Test.YtiionicikdnnpaaGreatDoorCardB

