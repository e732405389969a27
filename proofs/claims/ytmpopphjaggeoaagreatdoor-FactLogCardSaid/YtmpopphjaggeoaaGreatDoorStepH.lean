/- Texts of this seat, joined. -/
import Derived.Test.YtmpopphjaggeoaaGreatDoorStepG
import Derived.OpenShut

