/- Texts of this seat, joined. -/
import Derived.Test.YtacgopankhpnbaaGreatDoorKC

