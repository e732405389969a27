/- A top text for the Fact claims (scratch). -/
import Derived.Test.YtmpopphjaggeoaaGreatDoorKAO
import Derived.Test.YtmpopphjaggeoaaGreatDoorKAT

