/- Texts of this seat, joined. -/
import Derived.Test.YtmpopphjaggeoaaGreatDoorKN
import Derived.Test.YtmpopphjaggeoaaGreatDoorShelf

