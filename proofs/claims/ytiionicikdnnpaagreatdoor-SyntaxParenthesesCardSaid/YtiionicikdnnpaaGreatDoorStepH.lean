/- Texts of this seat, joined. -/
import Derived.Test.YtiionicikdnnpaaGreatDoorNO
import Derived.OpenShut

