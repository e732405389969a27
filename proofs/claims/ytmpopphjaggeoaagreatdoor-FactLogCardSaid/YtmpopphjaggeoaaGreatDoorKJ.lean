/- Texts of this seat, joined. -/
import Derived.Test.YtmpopphjaggeoaaGreatDoorKI
import Derived.RangeFuncNested
import Derived.RangeFuncBound
import Derived.OwnWalkIn
import Derived.TacticsInMore
import Derived.LoopNIn
import Derived.LoopIn
set_option linter.unusedVariables false
set_option linter.unusedSimpArgs false
set_option linter.constructorNameAsVariable false
namespace Go.Proofs.YtmpopphjaggeoaaGreatDoor
open Go.RowKit Go.Shelf
attribute [local go_sem] Oper.semAt_some
theorem strInfo:(Tryz.prog.info? 9).map (fun i=>(i.zero,i.size,i.bytes))=some (some (.string ByteArray.empty),1,16):=CQ
def OwnStrs(B:Nat)(w:World)(v:Value)(l:List bA):Prop:=
 (l=[]/\v=.slice none 0 0)\/∃g o c,v=.slice (some ⟨g,o,none⟩) l.length c/\B<=g/\g<w.heap.size/\l.length<=c/\c<=9223372036854775807/\
  ∀i x,l[i]? =some x->w.cell? ⟨g,o+i,none⟩=some (.string x)/\w.frozen? ⟨g,o+i,none⟩=false/\x.size<=140737488355328
theorem OwnStrs.strs{B:Nat}{w:World}{v:Value}{l:List bA}(h:OwnStrs B w v l):Strs w v l:=by
 rcases h with⟨rfl,rfl⟩|⟨g,o,c,rfl,-,-,h1,h2,hc⟩
 ·exact⟨none,0,rfl,C0,C0,fun h=>absurd rfl h⟩
 refine⟨_,c,rfl,h1,h2,fun _=>⟨g,o,rfl,fun i x hx=>⟨[.string x],⟨rfl,(hc i x hx).2.2⟩,rfl,fun j u hu=>?_⟩⟩⟩
 match j,hu with
 |0,hu=>cases hu;simpa using(hc i x hx).1
theorem OwnStrs.block{B B':Nat}{w:World}{v:Value}{l:List bA}(h:OwnStrs B w v l)(hB:B'<=B):∀a n c,v=.slice (some a) n c->B'<=a.block:=by
 intro a n c e;rcases h with⟨_,rfl⟩|⟨g,o,c',rfl,hg,_⟩
 ·cases e
 cases e;exact Nat.le_trans hB hg
end Go.Proofs.YtmpopphjaggeoaaGreatDoor
