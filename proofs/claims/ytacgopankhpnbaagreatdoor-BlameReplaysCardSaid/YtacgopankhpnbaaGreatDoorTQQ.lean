/- Texts of this seat, joined. -/
import Derived.Test.YtacgopankhpnbaaGreatDoorTQP
import Derived.Test.YtacgopankhpnbaaGreatDoorTQO
set_option maxHeartbeats 4000000
set_option maxRecDepth 100000
set_option linter.unusedVariables false
set_option linter.unusedSimpArgs false
namespace Go.Proofs.YtacgopankhpnbaaGreatDoor
open Go.RowKit
theorem Y2{p:Prop}(h:p:=by
 go_wp2_with fail
 exact HW.out.ret rfl rfl rfl HE.out (fun h=>absurd h aAO)):p:=h
theorem iMap_snoc{inputs:List Fil}{k:Nat}{f:Fil}(hf:inputs[k]? =some f)(z:bA)[Decidable (z=f.name)]:(if z=f.name then some true else iMap (inputs.take k) z)=iMap (inputs.take (k+1)) z:=by
 obtain⟨hk,rfl⟩:=Yb.1 hf;unfold iMap kY;rw[List.take_succ_eq_append_getElem hk,List.any_append];by_cases h:z=inputs[k].name
 ·subst h;simp
 have:decide (inputs[k].name=z)=false:=decide_eq_false (fun e=>h e.symm);rw[if_neg h];simp only[List.any_cons,List.any_nil,this,Bool.or_false]
theorem wMap_snoc{steps:List Stp}{k:Nat}{s:Stp}(hs:steps[k]? =some s)(hn:aK (steps.take k) s.out=none)(z:bA)[Decidable (z=s.out)]:(if z=s.out then some (k:Int) else lP (steps.take k) z)=lP (steps.take (k+1)) z:=by
 obtain⟨hk,rfl⟩:=Yb.1 hs;unfold lP aK at *;rw[List.take_succ_eq_append_getElem hk,List.findIdx?_append];by_cases h:z=steps[k].out
 ·subst h;rw[hn];have hl:(steps.take k).length=k:=aA0;simp[List.findIdx?_cons,hl]
 have:decide (steps[k].out=z)=false:=decide_eq_false (fun e=>h e.symm);rw[if_neg h];cases hh:List.findIdx? (fun s=>decide (s.out=z)) (steps.take k)<;>simp[List.findIdx?_cons,this]
theorem twiceFrom_at{r:Rcp}{k len:Nat}{s:Stp}(h:k<len)(hs:r.steps[k]? =some s):lY r k (len-k)=(oL r k s.out||lY r (k+1) (len-(k+1))):=by
 obtain⟨n,hn⟩:∃n,len-k=n+1:=⟨len-k-1,aAM⟩;rw[hn,lY,hs,show len-(k+1)=n by omega]
theorem inspect_arg(r:Rcp)(L:List (Value×Stp))(vi vs:Value)(w:World)(xR:jZ w vi r.inputs)(vO:pZ w vs L)(hL:L.map (·.2)=r.steps)
  (tL:aT r.inputs=false\/60<L.length\/(L.any fun y=> !aM y.2)=true):
  Calls Tryz.prog 63 #[jD vi vs r.output] w (InspPost vi vs r.output r w):=by
 have HE:Hid (aP r=1):=zh (by
  unfold aP;rw[if_pos];rcases tL with h|h|h
  ·simp[h]
  ·rw[<-hL];simp;exact .inl (.inr h)
  rw[<-hL,List.any_map];have:(L.any ((fun s=> !aM s) ∘ fun x=>x.snd))=true:=h
  simp only[this,Bool.or_true])
 obtain⟨ai,ci,SW,-⟩:=id xR;obtain⟨av,cv,QJ⟩:=stps_slice vO;subst SW QJ;have HW:=zh (kP.first (.slice ai r.inputs.length ci) (.slice av L.length cv) r.output w);have HF:=zh (iT r.inputs _ _ (xR.later HW.out.below))
 have HC:Hid (∀W,Below w.heap.size w W->Calls Tryz.prog 90 #[.slice av L.length cv,.func (.func 91) #[] #[]] W fun e w'=>e=.returned (.bool (L.any fun y=> !aM y.2))/\Below W.heap.size W w'):=
  zh fun W hb=>nL _ _ _ L _ W (vO.later hb) enters_inspect1 (fun y hy W' tO=>inspect1_any y W' ((vO.src hy).1.later (aB hb tO)) (vO.src hy).2)
 have yV:=@run_makeMap Tryz.prog;generalize (L.any fun y=> !aM y.2)=b3 at HC tL;generalize aT r.inputs=b1 at HF tL;clear xR vO hL
 cases b1 with
 |false=>
  clear tL HC;go_enter Tryz.func63,Tryz.ntmps63;go_wp2_with fail;refine HF.out.mono ?_;rintro e w2 ⟨rfl,hb⟩
  replace HW:=zh (HW.out.later hb)
  obtain⟨g0,g1,g2,g3,g4⟩:=HW.out.gcells;obtain⟨⟨z0,z1,z2,z3,z4⟩,f0,f1,f2,f3,f4⟩:=HW.out.zcells;clear yV hb;exact Y2
 |true=>
  by_cases DG:60<L.length
  ·clear tL HC;go_enter Tryz.func63,Tryz.ntmps63;go_wp2_with fail;refine HF.out.mono ?_;rintro e w2 ⟨rfl,hb⟩
   replace HW:=zh (HW.out.later hb)
   obtain⟨g0,g1,g2,g3,g4⟩:=HW.out.gcells;obtain⟨r0,r1,r2⟩:=HW.out.rcells;obtain⟨⟨z0,z1,z2,z3,z4⟩,f0,f1,f2,f3,f4⟩:=HW.out.zcells;clear yV hb;exact Y2
  obtain rfl:b3=true:=by
   rcases tL with h|h|h
   ·cases h
   ·exact absurd h DG
   exact h
  clear tL;go_enter Tryz.func63,Tryz.ntmps63;go_wp2_with fail;refine HF.out.mono ?_;rintro e w2 ⟨rfl,hb⟩
  replace HW:=zh (HW.out.later hb)
  obtain⟨r0,r1,r2⟩:=HW.out.rcells;clear yV hb;go_wp2_with fail;refine(HC.out _ HW.out.below).mono ?_;rintro e w3 ⟨rfl,hb⟩
  replace HW:=zh (HW.out.later hb)
  clear r0 r1 r2;obtain⟨g0,g1,g2,g3,g4⟩:=HW.out.gcells;obtain⟨⟨z0,z1,z2,z3,z4⟩,f0,f1,f2,f3,f4⟩:=HW.out.zcells;clear hb;exact Y2
end Go.Proofs.YtacgopankhpnbaaGreatDoor
