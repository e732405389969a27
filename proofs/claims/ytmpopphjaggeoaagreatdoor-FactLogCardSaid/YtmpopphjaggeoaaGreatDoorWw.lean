/- Texts of this seat, joined. -/
import Derived.KernelRfl

