/- Texts of this seat, joined. -/
import Derived.Test.YtmpopphjaggeoaaGreatDoorStepH
import Derived.Deep.RegionHeld3
set_option linter.unusedVariables false
set_option linter.unusedSimpArgs false
set_option linter.constructorNameAsVariable false
namespace Go.Proofs.YtmpopphjaggeoaaGreatDoor
open Go.RowKit
def StrsOff(b:Nat)(w:World)(v:Value)(l:List bA):Prop:=Strs w v l/\∀a n c,v=.slice (some a) n c->l≠[]->b<a.block
theorem StrsOff.only{b:Nat}{w w':World}{v:Value}{l:List bA}(h:StrsOff b w v l)(ho:fM b w w'):StrsOff b w' v l:=by
 refine⟨?_,h.2⟩;obtain⟨a,c,hv,h1,h2,h3⟩:=h.1;refine⟨a,c,hv,h1,h2,fun kQ=>?_⟩;obtain⟨b',o',ha,hc⟩:=h3 kQ;refine⟨b',o',ha,fun i x' hx=>?_⟩;obtain⟨cs,e,hl,hj⟩:=hc i x' hx;exact⟨cs,e,hl,fun j u hu=>ho.cell (Nat.ne_of_gt (h.2 ⟨b',o',none⟩ l.length c (by rw[hv,ha]) kQ)) (hj j u hu)⟩
def IntsOff(b:Nat)(w:World)(v:Value)(l:List Int):Prop:=Ints w v l/\∀a n c,v=.slice (some a) n c->l≠[]->a.block≠b
theorem IntsOff.only{b:Nat}{w w':World}{v:Value}{l:List Int}(h:IntsOff b w v l)(ho:fM b w w'):IntsOff b w' v l:=by
 refine⟨?_,h.2⟩;obtain⟨a,c,hv,h1,h2,h3⟩:=h.1;refine⟨a,c,hv,h1,h2,fun kQ=>?_⟩;obtain⟨b',o',ha,hc⟩:=h3 kQ;refine⟨b',o',ha,fun i x' hx=>?_⟩;obtain⟨cs,e,hl,hj⟩:=hc i x' hx;exact⟨cs,e,hl,fun j u hu=>ho.cell (h.2 ⟨b',o',none⟩ l.length c (by rw[hv,ha]) kQ) (hj j u hu)⟩
end Go.Proofs.YtmpopphjaggeoaaGreatDoor
