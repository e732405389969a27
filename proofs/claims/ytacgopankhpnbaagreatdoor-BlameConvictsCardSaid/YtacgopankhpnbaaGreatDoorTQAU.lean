/- Texts of this seat, joined. -/
import Derived.Test.YtacgopankhpnbaaGreatDoorTQAT
import Derived.Test.YtacgopankhpnbaaGreatDoorTQS
set_option maxRecDepth 100000
set_option linter.unusedVariables false
set_option linter.unusedSimpArgs false
namespace Go.Proofs.YtacgopankhpnbaaGreatDoor
open Go.RowKit
section
variable {r:Rcp} {L:List (Value×Stp)} {vi vs:Value} {w w':World}
theorem dR.onlyMap{b:Nat}(h:dR r L vi vs w)(hm:dG w b)(ho:bS b w w'):dR r L vi vs w':=⟨h.inp.onlyMap hm ho,h.stp.onlyMap hm ho,h.map,h.out⟩
end
theorem slice_bad(r:Rcp)(L:List (Value×Stp))(vi vs:Value)(w:World)(h:dR r L vi vs w)(he:aP r≠0):
  Calls Tryz.prog 30 #[jD vi vs r.output] w fun e w'=>e=.returned (.slice none 0 0)/\Below w.heap.size w w':=by
 have HI:=zh (h.later (aA w (aY vi vs r.output))).inspect;obtain⟨ai,ci,av,cv,rfl,rfl⟩:=h.slices;have h0:(aP r==0)=false:=beq_eq_false_iff_ne.2 he;have h1:(aP r != 0)=true:=aB3;clear h he;go_enter Tryz.func30,Tryz.ntmps30;exact ZY
theorem pure_bad(r:Rcp)(L:List (Value×Stp))(vi vs:Value)(w:World)(h:dR r L vi vs w)(he:aP r≠0):
  Calls Tryz.prog 28 #[jD vi vs r.output] w fun e w'=>e=.returned (.bool false)/\Below w.heap.size w w':=by
 have HI:=zh (rH r L vi vs _ (h.later (aA w (aY vi vs r.output))));obtain⟨ai,ci,av,cv,rfl,rfl⟩:=h.slices;have h0:(aP r==0)=false:=beq_eq_false_iff_ne.2 he;clear h he;generalize aP r=q at h0 HI;go_enter Tryz.func28,Tryz.ntmps28;go_wp2_with fail;refine HI.out.mono ?_;rintro e w2 ⟨rfl,hb⟩;have HB:=zh hb;clear hb;go_wp2_with fail;go_ret;exact⟨rfl,aB (aA _ _) HB.out⟩
end Go.Proofs.YtacgopankhpnbaaGreatDoor
namespace Go.Proofs.YtacgopankhpnbaaGreatDoor
open Go.RowKit
section
variable {r:Rcp} {L:List (Value×Stp)} {vi vs:Value} {bw bi:Nat} {w w':World}
theorem Grf.onlyMap{b:Nat}(h:Grf r L vi vs bw bi w)(hm:dG w b)(ho:bS b w w')(sC:bw≠b):Grf r L vi vs bw bi w':=by
 obtain⟨nw,hw⟩:=h.wr;exact⟨h.rcp.onlyMap hm ho,⟨nw,hw.of_block (ho.block _ hw.lt sC)⟩,h.few,h.src⟩
end
end Go.Proofs.YtacgopankhpnbaaGreatDoor
