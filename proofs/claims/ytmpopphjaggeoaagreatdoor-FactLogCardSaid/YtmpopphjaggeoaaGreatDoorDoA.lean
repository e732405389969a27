/- Texts of this seat, joined. -/
import Derived.Test.YtmpopphjaggeoaaGreatDoorKM
import Derived.Test.YtmpopphjaggeoaaGreatDoorClone

