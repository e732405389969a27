/- Texts of this seat, joined. -/
import Derived.Test.YtacgopankhpnbaaGreatDoorKQ
namespace Go.Proofs.YtacgopankhpnbaaGreatDoor
open Go.RowKit
theorem do_any(C:ByteArray->Int×ByteArray)(s:Stp)(files:List Fil)(clock order:List Int)(vf vl vc vo vn:Value)(u0 u1:Int)(w:World)(h:DoIn s files clock order vf vl vc vo vn u0 u1 w)(h5:s.kind≠5):
  Calls Tryz.prog 17 (kK s vf vl vc vo vn u0 u1) w (DoPost w s files u0 u1 (aX C s files clock order u0 u1)):=by
 refine(do_far C s files clock order vf vl vc vo vn u0 u1 w h h5).mono ?_;rintro e w' ⟨hb,h1⟩;refine⟨hb,?_⟩
 cases hr:aX C s files clock order u0 u1 with
 |error c=>rw[hr] at h1;exact h1
 |ok q=>
  obtain⟨text,saw,a,b⟩:=q;rw[hr] at h1;obtain⟨vfl,vsaw,h2,h3,h4,-⟩:=h1;exact⟨vfl,vsaw,h2,h3,h4⟩
end Go.Proofs.YtacgopankhpnbaaGreatDoor
