/- Texts of this seat, joined. -/
import Derived.Deep.AppendLies
import Derived.Laws.AppendOwnNone
import Derived.Test.YtacgopankhpnbaaGreatDoorTQB

