/- Texts of this seat, joined. -/
import Derived.Test.YtacgopankhpnbaaGreatDoorKAZ
import Derived.Test.YtacgopankhpnbaaGreatDoorKY
namespace Go.Proofs.YtacgopankhpnbaaGreatDoor
set_option maxRecDepth 100000
open Go.RowKit
def oR(steps:List Stp)(i:Nat):Bool:=match steps[i]? with
 |some s=> !cH s
 |none=>true
theorem pure1_any(r:Rcp)(L:List (Value×Stp))(vi vs:Value)(pr i:Nat)(w:World)(h:fZ r L vi vs w)(hb:w.heap[pr]? =some (dG vi vs r.output))(hi:i<L.length):
  Calls Tryz.prog 62 #[.int .i64 i,.pointer (some ⟨pr,0,none⟩)] w fun e w'=>e=.returned (.bool (oR r.steps i))/\Below w.heap.size w w':=by
 obtain⟨y,hy,-⟩:=getElem?_of_lt hi;have hs:r.steps[i]? =some y.2:=by rw[<-h.map,List.getElem?_map,hy];rfl
 have HP:=zh (show oR r.steps i= !cH y.2 by unfold oR;rw[hs]);rw[HP.out];obtain⟨r0,r1,r2⟩:=gY hb;rcases h.stp.cases with⟨e,-⟩|⟨b,o,c,rfl,-,hc1,hc2,-,hc⟩
 ·subst e;simp at hi
 obtain⟨s0,s1,s2,s3,hsrc,hso⟩:=hc i y hy;have HC:=zh (lU y.2 y.1 w hsrc hso);generalize cH y.2=q at HC ⊢;obtain⟨a,cc,hv⟩:=cB hsrc;obtain⟨yv,kind,src,out,sorted⟩:=y;simp only at s0 s1 s2 s3 HC hv;subst hv;clear h hb hy hs HP hc hsrc hso;go_enter Tryz.func62,Tryz.ntmps62;go_wp2_with fail;refine HC.out.mono ?_;rintro e w1 ⟨rfl,hb⟩;have HB:=zh hb;clear hb;go_wp2_with fail;go_ret;exact⟨rfl,HB.out⟩
theorem enters_pure1:∀args w,(callFunc 62 args).run Tryz.prog w=.ok (.enter 62 args) w:=enters_of Tryz.func62 vU rfl
theorem sliceL_lt{r:Rcp}{i:Nat}(h:i∈eG r):i<r.steps.length:=by
 unfold eG at h;split at h
 ·cases h
 ·unfold oE at h;exact List.mem_range.1 (List.mem_filter.1 h).1
theorem pure_any(r:Rcp)(L:List (Value×Stp))(vi vs:Value)(w:World)(h:fZ r L vi vs w):
  Calls Tryz.prog 28 #[nD vi vs r.output] w fun e w'=>e=.returned (.bool (pureL r))/\Below w.heap.size w w':=by
 by_cases he:¬bC r=0
 ·refine(pure_bad r L vi vs w h he).mono ?_;rw[show pureL r=false by unfold pureL;rw[decide_eq_false he];rfl];exact fun _ _ h=>h
 replace he:=Classical.not_not.1 he
 have HR:=zh (right_any r L vi vs _ (h.later (aA w (dG vi vs r.output))));have HP:=zh (show pureL r= !(eG r).any (oR r.steps) by unfold pureL;rw[decide_eq_true he];rfl);rw[HP.out];have HRcp:=zh h;have HSl:Hid (∀W,Below w.heap.size w W->Calls Tryz.prog 30 #[nD vi vs r.output] W (gG (eG r) W)):=zh fun W hb=>qC r L vi vs W (HRcp.out.later hb)
 have HCf:Hid (∀v W,Below w.heap.size w W->W.heap[w.heap.size]? =some (dG vi vs r.output)->gZ W v (bI (eG r))->Calls Tryz.prog 61 #[v,.func (.func 62) #[] #[.pointer (some ⟨w.heap.size,0,none⟩)]] W fun e w'=>e=.returned (.bool ((eG r).any (oR r.steps)))/\Below W.heap.size W w'):=
  zh fun v W hb hbx hI=>oU 62 #[.pointer (some ⟨w.heap.size,0,none⟩)] (oR r.steps) (eG r) v W hI enters_pure1 (fun x hx W' hb'=>
   pure1_any r L vi vs w.heap.size x W' (HRcp.out.later (aB hb hb')) (aD hb' hbx) (by rw[<-HRcp.out.len];exact sliceL_lt hx))
 have HB0:=zh (aA w (dG vi vs r.output));have HBx:=zh (aN w (dG vi vs r.output));obtain⟨ai,ci,av,cv,rfl,rfl⟩:=h.slices;rw[he] at HR;generalize (eG r).any (oR r.steps)=q at HCf ⊢;clear h he HP;go_enter Tryz.func28,Tryz.ntmps28;go_wp2_with fail;refine HR.out.mono ?_;rintro e w2 ⟨rfl,hb⟩;obtain⟨r0,r1,r2⟩:=gY (aD hb HBx.out);have HB2:=zh (aB HB0.out hb);have HBx2:=zh (aD hb HBx.out);clear hb HR;go_wp2_with fail;refine(HSl.out _ HB2.out).mono ?_;rintro e w3 ⟨v,rfl,hI,-,hb⟩;have HC:=zh (HCf.out v w3 (aB HB2.out hb) (aD hb HBx2.out) hI);have HB3:=zh (aB HB2.out hb);clear hI hb r0 r1 r2;go_wp2_with fail;refine HC.out.mono ?_;rintro e w4 ⟨rfl,hb⟩;have HB4:=zh (aB HB3.out hb);clear hb;go_wp2_with fail;go_ret;exact⟨rfl,HB4.out⟩
end Go.Proofs.YtacgopankhpnbaaGreatDoor
