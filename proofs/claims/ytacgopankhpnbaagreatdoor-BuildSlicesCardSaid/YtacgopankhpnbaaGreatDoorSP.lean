/- Texts of this seat, joined. -/
import Derived.Test.YtacgopankhpnbaaGreatDoorSO
import Derived.Laws.EntriesVeiled
import Derived.Test.YtacgopankhpnbaaGreatDoorZr
set_option maxHeartbeats 4000000
set_option maxRecDepth 100000
set_option linter.unusedVariables false
set_option linter.unusedSimpArgs false
namespace Go.Proofs.YtacgopankhpnbaaGreatDoor
open Go.RowKit
theorem TU{p:Prop}(h:p:=by
 simpa only[World.size_alloc] using this):p:=h
structure CircRel (L:List (Value×Stp)) (vi vs:Value) (out:ByteArray) (bw bi bm ps pg pv nw:Nat) (w:World) (k:Nat) (st:dT) (wr:World):Prop where
 circ:Circ L vi vs out bw bi bm ps pg pv nw wr st
 below:Below w.heap.size w wr
 left:kG (L.map (·.2))=gM (aY (L.map (·.2))) (L.length+1) k (L.length-k) st
theorem circleFrom_at{needs:Nat->List Nat}{f k len:Nat}{st:dT}(h:k<len):gM needs f k (len-k) st=((eE needs f st k).2||gM needs f (k+1) (len-(k+1)) (eE needs f st k).1):=by
 obtain⟨n,hn⟩:∃n,len-k=n+1:=⟨len-k-1,VG⟩;rw[hn,gM,show len-(k+1)=n by omega]
theorem zeros_len(st:dT):∀n,jU st n<=n
 |0=>Nat.le_refl _
 |n+1=>by rw[jU];have:=zeros_len st n;split<;>omega
section
variable {L:List (Value×Stp)} {vi vs:Value} {out:ByteArray} {bw bi nw:Nat} {w:World}
abbrev circWorld(vi vs:Value)(out:ByteArray)(bw bi:Nat)(w:World):World:=
 (((w.alloc (bR vi vs out bw bi)).alloc (.map #[] 0)).alloc (.cells #[.map (some (w.heap.size+1))] 192)).alloc
  (.cells #[.func (.func 119) #[] #[.pointer (some ⟨w.heap.size+1+1,0,none⟩),.pointer (some ⟨w.heap.size,0,none⟩),.pointer (some ⟨w.heap.size+1+1+1,0,none⟩)]] 97)
theorem CircRel.first(hS:lD w vs L)(hM:aW eI vInt w bw nw (kD (L.map (·.2))))(hL:L.length<=60):
  CircRel L vi vs out bw bi (w.heap.size+1) (w.heap.size+1+1) w.heap.size (w.heap.size+1+1+1) nw w 0 (fun _=>0) (circWorld vi vs out bw bi w):=by
 have B1:=aA w (bR vi vs out bw bi);have B2:=aA (w.alloc (bR vi vs out bw bi)) (.map #[] 0);have B3:=aA ((w.alloc (bR vi vs out bw bi)).alloc (.map #[] 0)) (.cells #[.map (some (w.heap.size+1))] 192);have B4:=aA (((w.alloc (bR vi vs out bw bi)).alloc (.map #[] 0)).alloc (.cells #[.map (some (w.heap.size+1))] 192)) (.cells #[.func (.func 119) #[] #[.pointer (some ⟨w.heap.size+1+1,0,none⟩),.pointer (some ⟨w.heap.size,0,none⟩),.pointer (some ⟨w.heap.size+1+1+1,0,none⟩)]] 97);have B:=aB (aB (aB B1 B2) B3) B4;have hx:∀{a b:World}{k:Nat}{o:Obj},Below a.heap.size a b->a.heap[k]? =some o->b.heap[k]? =some o:=fun hb hk=>(hb.block _ (Array.getElem?_eq_some_iff.1 hk).1).trans hk;refine⟨⟨⟨?_,?_,?_⟩,hS.later B,hM.later B,by have:=hM.lt;omega,0,fun _=>none,?_,by rw[pot_new];omega,fun _=>rfl⟩,B,by unfold kG;rw[List.length_map];rfl⟩
 ·have:=hx B4 (aN ((w.alloc (bR vi vs out bw bi)).alloc (.map #[] 0)) (.cells #[.map (some (w.heap.size+1))] 192));exact TU
 ·exact hx (aB (aB B2 B3) B4) (aN w _)
 ·have:=aN (((w.alloc (bR vi vs out bw bi)).alloc (.map #[] 0)).alloc (.cells #[.map (some (w.heap.size+1))] 192)) (.cells #[.func (.func 119) #[] #[.pointer (some ⟨w.heap.size+1+1,0,none⟩),.pointer (some ⟨w.heap.size,0,none⟩),.pointer (some ⟨w.heap.size+1+1+1,0,none⟩)]] 97);exact TU
 ·have:=(aW.made (K:=kInt) (V:=vInt) (w.alloc (bR vi vs out bw bi))).later (aB B3 B4);exact TU
end
theorem circle_any(L:List (Value×Stp))(vi vs:Value)(out:ByteArray)(bw bi nw:Nat)(w:World)(hS:lD w vs L)(hM:aW eI vInt w bw nw (kD (L.map (·.2))))(hL:L.length<=60)(hs:∀y,y∈L->y.2.src.length<=1000000):
  Calls Tryz.prog 95 #[grfV vi vs out bw bi] w fun e w'=>e=.returned (.bool (kG (L.map (·.2))))/\Below w.heap.size w w':=by
 have HV:=zh (visit_any L vi vs out bw bi (w.heap.size+1) (w.heap.size+1+1) w.heap.size (w.heap.size+1+1+1) nw VG hs (L.length+1));have HF:=zh (CircRel.first (vi:=vi) (out:=out) (bi:=bi) hS hM hL);have vZ:=@run_makeMap Tryz.prog;have eg:=enters_visit;obtain⟨a,c,LA⟩:=stps_slice hS;subst LA;clear hS hM hs;go_enter Tryz.func95,Tryz.ntmps95;go_wp2_with fail;go_loopw [12] (fun i wr=>∃(k:Nat)(st:dT),k<=L.length/\i=.int .i64 k/\Hid (CircRel L vi (.slice a L.length c) out bw bi (w.heap.size+1) (w.heap.size+1+1) w.heap.size (w.heap.size+1+1+1) nw w k st wr)) (fun i _=>L.length-(intOf i).toNat)
 case atStart=>exact⟨0,fun _=>0,Nat.zero_le _,rfl,HF⟩
 case round=>
  obtain⟨k,st,hk,rfl,HR⟩:=hrel;rename World=>wr
  clear HF vZ;by_cases pT:k<L.length
  ·obtain⟨-,-,d0⟩:=HR.out.circ.cells;have HC:=zh (HV.out wr st k HR.out.circ pT (by have:=zeros_len st L.length;omega));have HL:=zh (HR.out.left.trans (circleFrom_at pT));generalize eE (aY (L.map (·.2))) (L.length+1) st k=r at HC HL;obtain⟨st2,q⟩:=r
   cases q with
   |true=>
    go_wp2_with(go_at_fn 119;(with_reducible refine HC.out.mono ?_);rintro e w2 ⟨rfl,h2,ho⟩);go_ret;refine⟨aD (by rw[HL.out];rfl),ho.below HR.out.below VG HR.out.below.size⟩
   |false=>
    go_wp2_with(go_at_fn 119;(with_reducible refine HC.out.mono ?_);rintro e w2 ⟨rfl,h2,ho⟩);go_roundw;(case rel=>exact⟨k+1,st2,VG,VT,zh ⟨h2,ho.below HR.out.below VG HR.out.below.size,HL.out⟩⟩);case measure=>simp[intOf];omega
  ·have HL:=zh (show kG (L.map (·.2))=false by rw[HR.out.left,show L.length-k=0 by omega];rfl);go_wp2_with fail;go_ret;exact⟨aD HL.out.symm,HR.out.below⟩
end Go.Proofs.YtacgopankhpnbaaGreatDoor
namespace Go.Proofs.YtacgopankhpnbaaGreatDoor
open Go.RowKit
abbrev lY(vi vs:Value)(out:ByteArray):Value:=.agg #[vi,vs,.string out]
abbrev bK(vi vs:Value)(out:ByteArray):Obj:=.cells #[vi,vs,.string out] 51
abbrev lT:Obj:=.cells #[.slice none 0 0,.slice none 0 0,.string ⟨#[]⟩,.map none,.map none] 101
def iMap(inputs:List Fil)(x:ByteArray):Option Bool:=if jQ inputs x then some true else none
theorem iMap_getD(inputs:List Fil)(x:ByteArray):(iMap inputs x).getD false=jQ inputs x:=by
 unfold iMap;cases jQ inputs x<;>rfl
theorem wMap_isSome(steps:List Stp)(x:ByteArray):(kD steps x).isSome=(bF steps x).isSome:=by
 unfold kD;cases bF steps x<;>rfl
structure jK (vi vs:Value) (out:ByteArray) (w:World) (nw ni:Nat) (mw:ByteArray->Option Int) (mi:ByteArray->Option Bool) (W:World):Prop where
 br:W.heap[w.heap.size]? =some (bK vi vs out)
 bres:W.heap[w.heap.size+1]? =some lT
 bg:W.heap[w.heap.size+1+1+1+1]? =some (bR vi vs out (w.heap.size+1+1) (w.heap.size+1+1+1))
 mw:aW eI vInt W (w.heap.size+1+1) nw mw
 mi:aW eI dD W (w.heap.size+1+1+1) ni mi
 below:Below w.heap.size w W
section
variable {vi vs:Value} {out:ByteArray} {w W W':World} {nw ni:Nat} {mw:ByteArray->Option Int} {mi:ByteArray->Option Bool}
theorem aF{a b:World}{k:Nat}{o:Obj}(hb:Below a.heap.size a b)(hk:a.heap[k]? =some o):b.heap[k]? =some o:=(hb.block _ (Array.getElem?_eq_some_iff.1 hk).1).trans hk
theorem jK.later(h:jK vi vs out w nw ni mw mi W)(hb:Below W.heap.size W W'):jK vi vs out w nw ni mw mi W':=
 ⟨aF hb h.br,aF hb h.bres,aF hb h.bg,h.mw.later hb,h.mi.later hb,aB h.below hb⟩
theorem jK.setI{n':Nat}{mi':ByteArray->Option Bool}(h:jK vi vs out w nw ni mw mi W)(hg:W.grownBy W' (some (w.heap.size+1+1+1)))(hm:aW eI dD W' (w.heap.size+1+1+1) n' mi'):jK vi vs out w nw n' mw mi' W':=by
 have ho:=iE hg;have hM:=cQ.of h.mi;exact⟨hM.box ho h.br,hM.box ho h.bres,hM.box ho h.bg,h.mw.of_block (ho.block _ h.mw.lt VG),hm,ho.below h.below VG h.below.size⟩
theorem jK.setW{n':Nat}{mw':ByteArray->Option Int}(h:jK vi vs out w nw ni mw mi W)(hg:W.grownBy W' (some (w.heap.size+1+1)))(hm:aW eI vInt W' (w.heap.size+1+1) n' mw'):jK vi vs out w n' ni mw' mi W':=by
 have ho:=iE hg;have hM:=cQ.of h.mw;exact⟨hM.box ho h.br,hM.box ho h.bres,hM.box ho h.bg,hm,h.mi.of_block (ho.block _ h.mi.lt VG),ho.below h.below VG h.below.size⟩
theorem jK.first(vi vs:Value)(out:ByteArray)(w:World):
  jK vi vs out w 0 0 (fun _=>none) (fun _=>none) (((((w.alloc (bK vi vs out)).alloc lT).alloc (.map #[] 0)).alloc (.map #[] 0)).alloc (bR vi vs out (w.heap.size+1+1) (w.heap.size+1+1+1))):=by
 have B1:=aA w (bK vi vs out);have B2:=aA (w.alloc (bK vi vs out)) lT;have B3:=aA ((w.alloc (bK vi vs out)).alloc lT) (.map #[] 0);have B4:=aA (((w.alloc (bK vi vs out)).alloc lT).alloc (.map #[] 0)) (.map #[] 0);have B5:=aA ((((w.alloc (bK vi vs out)).alloc lT).alloc (.map #[] 0)).alloc (.map #[] 0)) (bR vi vs out (w.heap.size+1+1) (w.heap.size+1+1+1));refine⟨aF (aB (aB (aB B2 B3) B4) B5) (aN w _),?_,?_,?_,?_,aB (aB (aB (aB B1 B2) B3) B4) B5⟩
 ·have:=aF (aB (aB B3 B4) B5) (aN (w.alloc (bK vi vs out)) lT);exact TU
 ·have:=aN ((((w.alloc (bK vi vs out)).alloc lT).alloc (.map #[] 0)).alloc (.map #[] 0)) (bR vi vs out (w.heap.size+1+1) (w.heap.size+1+1+1));exact TU
 ·have:=(aW.made (K:=eI) (V:=vInt) ((w.alloc (bK vi vs out)).alloc lT)).later (aB B4 B5);exact TU
 ·have:=(aW.made (K:=eI) (V:=dD) (((w.alloc (bK vi vs out)).alloc lT).alloc (.map #[] 0))).later B5;exact TU
theorem fF{w:World}{k:Nat}{a b c:Value}{t:TypeId}{fr:Nat×Nat}(h:w.heap[k]? =some (.cells #[a,b,c] t fr)):
  w.cell? ⟨k,0,none⟩=some a/\w.cell? ⟨k,1,none⟩=some b/\w.cell? ⟨k,2,none⟩=some c:=by
 simp only[World.cell?,h];simp
theorem box4'{w:World}{k:Nat}{a b c d:Value}{t:TypeId}{fr:Nat×Nat}(h:w.heap[k]? =some (.cells #[a,b,c,d] t fr)):
  w.cell? ⟨k,0,none⟩=some a/\w.cell? ⟨k,1,none⟩=some b/\w.cell? ⟨k,2,none⟩=some c/\w.cell? ⟨k,3,none⟩=some d:=by
 simp only[World.cell?,h];simp
theorem jK.rcells(h:jK vi vs out w nw ni mw mi W):W.cell? ⟨w.heap.size,0,none⟩=some vi/\W.cell? ⟨w.heap.size,1,none⟩=some vs/\W.cell? ⟨w.heap.size,2,none⟩=some (.string out):=fF h.br
theorem jK.gcells(h:jK vi vs out w nw ni mw mi W):W.cell? ⟨w.heap.size+1+1+1+1,0,none⟩=some vi/\W.cell? ⟨w.heap.size+1+1+1+1,1,none⟩=some vs/\W.cell? ⟨w.heap.size+1+1+1+1,2,none⟩=some (.string out)/\
  W.cell? ⟨w.heap.size+1+1+1+1,3,none⟩=some (.map (some (w.heap.size+1+1)))/\W.cell? ⟨w.heap.size+1+1+1+1,4,none⟩=some (.map (some (w.heap.size+1+1+1))):=box5 h.bg
theorem jK.zcells(h:jK vi vs out w nw ni mw mi W):(W.cell? ⟨w.heap.size+1,0,none⟩=some (.slice none 0 0)/\W.cell? ⟨w.heap.size+1,1,none⟩=some (.slice none 0 0)/\W.cell? ⟨w.heap.size+1,2,none⟩=some (.string ⟨#[]⟩)/\
  W.cell? ⟨w.heap.size+1,3,none⟩=some (.map none)/\W.cell? ⟨w.heap.size+1,4,none⟩=some (.map none))/\(W.frozen? ⟨w.heap.size+1,0,none⟩=false/\W.frozen? ⟨w.heap.size+1,1,none⟩=false/\W.frozen? ⟨w.heap.size+1,2,none⟩=false/\W.frozen? ⟨w.heap.size+1,3,none⟩=false/\W.frozen? ⟨w.heap.size+1,4,none⟩=false):=by
 refine⟨box5 h.bres,?_⟩;simp only[World.frozen?,h.bres];simp
theorem set5{W:World}{b:Nat}{x0 x1 x2 x3 x4 u0 u1 u2 u3 u4:Value}{t:TypeId}{fr:Nat×Nat}(h:W.heap[b]? =some (.cells #[x0,x1,x2,x3,x4] t fr)):
  (((((W.setCell ⟨b,0,none⟩ u0).setCell ⟨b,1,none⟩ u1).setCell ⟨b,2,none⟩ u2).setCell ⟨b,3,none⟩ u3).setCell ⟨b,4,none⟩ u4).heap[b]? =some (.cells #[u0,u1,u2,u3,u4] t fr):=by
 exact UG
def InspPost(vi vs:Value)(out:ByteArray)(r:Rcp)(w:World)(e:Ending)(w':World):Prop:=
 e=.returned (.tuple #[grfV vi vs out (w.heap.size+1+1) (w.heap.size+1+1+1),.int .i64 (aU r)])/\Below w.heap.size w w'/\
 (aU r=0->∃nw ni,aW eI vInt w' (w.heap.size+1+1) nw (kD r.steps)/\aW eI dD w' (w.heap.size+1+1+1) ni (iMap r.inputs))
abbrev inspEnd(vi vs:Value)(out:ByteArray)(w W:World):World:=
 ((((W.setCell ⟨w.heap.size+1,0,none⟩ vi).setCell ⟨w.heap.size+1,1,none⟩ vs).setCell ⟨w.heap.size+1,2,none⟩ (.string out)).setCell ⟨w.heap.size+1,3,none⟩ (.map (some (w.heap.size+1+1)))).setCell ⟨w.heap.size+1,4,none⟩ (.map (some (w.heap.size+1+1+1)))
theorem insp_only(vi vs:Value)(out:ByteArray)(w W:World):bL (w.heap.size+1) W (inspEnd vi vs out w W):=
 ((((bL.setCell _).trans (bL.setCell _)).trans (bL.setCell _)).trans (bL.setCell _)).trans (bL.setCell _)
theorem jK.ret{r:Rcp}{e:Int}{a:Act}(h:jK vi vs out w nw ni mw mi W)(h2:a.tmps[2]?.getD undef=.pointer (some ⟨w.heap.size+1,0,none⟩))(h3:a.tmps[3]?.getD undef=.int .i64 e)(hd:a.defers=[])(he:aU r=e)
  (hm:e=0->mw=kD r.steps/\mi=iMap r.inputs):
  bodyPost Tryz.prog Tryz.f63 (InspPost vi vs out r w) .ret a (inspEnd vi vs out w W):=by
 obtain⟨c0,c1,c2,c3,c4⟩:=box5 (set5 (u0:=vi) (u1:=vs) (u2:=.string out) (u3:=.map (some (w.heap.size+1+1))) (u4:=.map (some (w.heap.size+1+1+1))) h.bres);subst he;refine bodyPost_ret (v:=.tuple #[grfV vi vs out (w.heap.size+1+1) (w.heap.size+1+1+1),.int .i64 (aU r)]) (by simp[results,Tryz.results63,go_sem,h2,h3,c0,c1,c2,c3,c4]) hd ⟨rfl,?_,fun h0=>?_⟩
 ·exact(insp_only vi vs out w W).below h.below VG h.below.size
 ·obtain⟨rfl,rfl⟩:=hm h0;exact⟨nw,ni,h.mw.of_block ((insp_only vi vs out w W).block _ h.mw.lt VG),h.mi.of_block ((insp_only vi vs out w W).block _ h.mi.lt VG)⟩
end
end Go.Proofs.YtacgopankhpnbaaGreatDoor
namespace Go.Proofs.YtacgopankhpnbaaGreatDoor
open Go.RowKit
theorem TJ{p:Prop}(h:p:=by
 go_wp2_with fail
 exact HW.out.ret rfl rfl rfl HE.out (fun h=>absurd h VI)):p:=h
theorem iMap_snoc{inputs:List Fil}{k:Nat}{f:Fil}(hf:inputs[k]? =some f)(z:ByteArray)[Decidable (z=f.name)]:(if z=f.name then some true else iMap (inputs.take k) z)=iMap (inputs.take (k+1)) z:=by
 obtain⟨hk,rfl⟩:=List.getElem?_eq_some_iff.1 hf;unfold iMap jQ;rw[List.take_succ_eq_append_getElem hk,List.any_append];by_cases h:z=inputs[k].name
 ·subst h;simp
 ·have:decide (inputs[k].name=z)=false:=decide_eq_false (fun e=>h e.symm);rw[if_neg h];simp only[List.any_cons,List.any_nil,this,Bool.or_false]
theorem wMap_snoc{steps:List Stp}{k:Nat}{s:Stp}(hs:steps[k]? =some s)(hn:bF (steps.take k) s.out=none)(z:ByteArray)[Decidable (z=s.out)]:(if z=s.out then some (k:Int) else kD (steps.take k) z)=kD (steps.take (k+1)) z:=by
 obtain⟨hk,rfl⟩:=List.getElem?_eq_some_iff.1 hs;unfold kD bF at *;rw[List.take_succ_eq_append_getElem hk,List.findIdx?_append];by_cases h:z=steps[k].out
 ·subst h;rw[hn];have hl:(steps.take k).length=k:=VZ;simp[List.findIdx?_cons,hl]
 ·have:decide (steps[k].out=z)=false:=decide_eq_false (fun e=>h e.symm);rw[if_neg h];cases hh:List.findIdx? (fun s=>decide (s.out=z)) (steps.take k)<;>simp[List.findIdx?_cons,this]
theorem twiceFrom_at{r:Rcp}{k len:Nat}{s:Stp}(h:k<len)(hs:r.steps[k]? =some s):kJ r k (len-k)=(lR r k s.out||kJ r (k+1) (len-(k+1))):=by
 obtain⟨n,hn⟩:∃n,len-k=n+1:=⟨len-k-1,VG⟩;rw[hn,kJ,hs,show len-(k+1)=n by omega]
theorem inspect_arg(r:Rcp)(L:List (Value×Stp))(vi vs:Value)(w:World)(xC:iB w vi r.inputs)(vE:lD w vs L)(hL:L.map (·.2)=r.steps)
  (rH:aR r.inputs=false\/60<L.length\/(L.any fun y=> !aM y.2)=true):
  Calls Tryz.prog 63 #[lY vi vs r.output] w (InspPost vi vs r.output r w):=by
 have HE:Hid (aU r=1):=zh (by
  unfold aU;rw[if_pos];rcases rH with h|h|h
  ·simp[h]
  ·rw[<-hL];simp;exact .inl (.inr h)
  ·rw[<-hL,List.any_map];have:(L.any ((fun s=> !aM s) ∘ fun x=>x.snd))=true:=h
   simp only[this,Bool.or_true])
 obtain⟨ai,ci,NI,-⟩:=id xC;obtain⟨av,cv,LA⟩:=stps_slice vE;subst NI LA;have HW:=zh (jK.first (.slice ai r.inputs.length ci) (.slice av L.length cv) r.output w);have HF:=zh (gV r.inputs _ _ (xC.later HW.out.below))
 have HC:Hid (∀W,Below w.heap.size w W->Calls Tryz.prog 90 #[.slice av L.length cv,.func (.func 91) #[] #[]] W fun e w'=>e=.returned (.bool (L.any fun y=> !aM y.2))/\Below W.heap.size W w'):=
  zh fun W hb=>lN _ _ _ L _ W (vE.later hb) enters_inspect1 (fun y hy W' qU=>inspect1_any y W' ((vE.src hy).1.later (aB hb qU)) (vE.src hy).2)
 have vZ:=@run_makeMap Tryz.prog;generalize (L.any fun y=> !aM y.2)=b3 at HC rH;generalize aR r.inputs=b1 at HF rH;clear xC vE hL
 cases b1 with
 |false=>
  clear rH HC;go_enter Tryz.func63,Tryz.ntmps63;go_wp2_with fail;refine HF.out.mono ?_;rintro e w2 ⟨rfl,hb⟩
  replace HW:=zh (HW.out.later hb)
  obtain⟨g0,g1,g2,g3,g4⟩:=HW.out.gcells;obtain⟨⟨z0,z1,z2,z3,z4⟩,f0,f1,f2,f3,f4⟩:=HW.out.zcells;clear vZ hb;exact TJ
 |true=>
  by_cases AL:60<L.length
  ·clear rH HC;go_enter Tryz.func63,Tryz.ntmps63;go_wp2_with fail;refine HF.out.mono ?_;rintro e w2 ⟨rfl,hb⟩
   replace HW:=zh (HW.out.later hb)
   obtain⟨g0,g1,g2,g3,g4⟩:=HW.out.gcells;obtain⟨r0,r1,r2⟩:=HW.out.rcells;obtain⟨⟨z0,z1,z2,z3,z4⟩,f0,f1,f2,f3,f4⟩:=HW.out.zcells;clear vZ hb;exact TJ
  ·obtain rfl:b3=true:=by
    rcases rH with h|h|h
    ·cases h
    ·exact absurd h AL
    ·exact h
   clear rH;go_enter Tryz.func63,Tryz.ntmps63;go_wp2_with fail;refine HF.out.mono ?_;rintro e w2 ⟨rfl,hb⟩
   replace HW:=zh (HW.out.later hb)
   obtain⟨r0,r1,r2⟩:=HW.out.rcells;clear vZ hb;go_wp2_with fail;refine(HC.out _ HW.out.below).mono ?_;rintro e w3 ⟨rfl,hb⟩
   replace HW:=zh (HW.out.later hb)
   clear r0 r1 r2;obtain⟨g0,g1,g2,g3,g4⟩:=HW.out.gcells;obtain⟨⟨z0,z1,z2,z3,z4⟩,f0,f1,f2,f3,f4⟩:=HW.out.zcells;clear hb;exact TJ
end Go.Proofs.YtacgopankhpnbaaGreatDoor
