/- Texts of this seat, joined. -/
import Derived.Test.YtiionicikdnnpaaGreatDoorPP
import Derived.OpenShut

