/- Texts of this seat, joined. -/
import Derived.Laws.EntriesVeiled
import Derived.Test.YtacgopankhpnbaaGreatDoorTQN
set_option maxHeartbeats 2000000
set_option maxRecDepth 100000
set_option linter.unusedVariables false
set_option linter.unusedSimpArgs false
namespace Go.Proofs.YtacgopankhpnbaaGreatDoor
open Go.RowKit
theorem Y9{p:Prop}(h:p:=by
 simpa only[World.size_alloc] using this):p:=h
structure CircRel (L:List (Value×Stp)) (vi vs:Value) (out:bA) (bw bi bm ps pg pv nw:Nat) (w:World) (k:Nat) (st:fE) (wr:World):Prop where
 circ:Circ L vi vs out bw bi bm ps pg pv nw wr st
 below:Below w.heap.size w wr
 left:lC (L.map (·.2))=kN (bL (L.map (·.2))) (L.length+1) k (L.length-k) st
theorem circleFrom_at{needs:Nat->List Nat}{f k len:Nat}{st:fE}(h:k<len):kN needs f k (len-k) st=((gF needs f st k).2||kN needs f (k+1) (len-(k+1)) (gF needs f st k).1):=by
 obtain⟨n,hn⟩:∃n,len-k=n+1:=⟨len-k-1,aAM⟩;rw[hn,kN,show len-(k+1)=n by omega]
theorem zeros_len(st:fE):∀n,lD st n<=n
 |0=>Nat.le_refl _
 |n+1=>by rw[lD];have:=zeros_len st n;split<;>omega
section
variable {L:List (Value×Stp)} {vi vs:Value} {out:bA} {bw bi nw:Nat} {w:World}
abbrev circWorld(vi vs:Value)(out:bA)(bw bi:Nat)(w:World):World:=
 (((w.alloc (cD vi vs out bw bi)).alloc (.map #[] 0)).alloc (.cells #[.map (some (w.heap.size+1))] 192)).alloc
  (.cells #[.func (.func 119) #[] #[.pointer (some ⟨w.heap.size+1+1,0,none⟩),.pointer (some ⟨w.heap.size,0,none⟩),.pointer (some ⟨w.heap.size+1+1+1,0,none⟩)]] 97)
theorem CircRel.first(hS:pZ w vs L)(hM:aX eQ vInt w bw nw (lP (L.map (·.2))))(hL:L.length<=60):
  CircRel L vi vs out bw bi (w.heap.size+1) (w.heap.size+1+1) w.heap.size (w.heap.size+1+1+1) nw w 0 (fun _=>0) (circWorld vi vs out bw bi w):=by
 have B1:=aA w (cD vi vs out bw bi);have B2:=aA (w.alloc (cD vi vs out bw bi)) (.map #[] 0);have B3:=aA ((w.alloc (cD vi vs out bw bi)).alloc (.map #[] 0)) (.cells #[.map (some (w.heap.size+1))] 192);have B4:=aA (((w.alloc (cD vi vs out bw bi)).alloc (.map #[] 0)).alloc (.cells #[.map (some (w.heap.size+1))] 192)) (.cells #[.func (.func 119) #[] #[.pointer (some ⟨w.heap.size+1+1,0,none⟩),.pointer (some ⟨w.heap.size,0,none⟩),.pointer (some ⟨w.heap.size+1+1+1,0,none⟩)]] 97);have B:=aB (aB (aB B1 B2) B3) B4;have hx:∀{a b:World}{k:Nat}{o:Obj},Below a.heap.size a b->a.heap[k]? =some o->b.heap[k]? =some o:=fun hb hk=>(hb.block _ (Array.getElem?_eq_some_iff.1 hk).1).trans hk;refine⟨⟨⟨?_,?_,?_⟩,hS.later B,hM.later B,by have:=hM.lt;omega,0,fun _=>none,?_,by rw[pot_new];omega,fun _=>rfl⟩,B,by unfold lC;rw[List.length_map];rfl⟩
 ·have:=hx B4 (aH ((w.alloc (cD vi vs out bw bi)).alloc (.map #[] 0)) (.cells #[.map (some (w.heap.size+1))] 192));exact Y9
 ·exact hx (aB (aB B2 B3) B4) (aH w _)
 ·have:=aH (((w.alloc (cD vi vs out bw bi)).alloc (.map #[] 0)).alloc (.cells #[.map (some (w.heap.size+1))] 192)) (.cells #[.func (.func 119) #[] #[.pointer (some ⟨w.heap.size+1+1,0,none⟩),.pointer (some ⟨w.heap.size,0,none⟩),.pointer (some ⟨w.heap.size+1+1+1,0,none⟩)]] 97);exact Y9
 have:=(aX.made (K:=kInt) (V:=vInt) (w.alloc (cD vi vs out bw bi))).later (aB B3 B4);exact Y9
end
theorem circle_any(L:List (Value×Stp))(vi vs:Value)(out:bA)(bw bi nw:Nat)(w:World)(hS:pZ w vs L)(hM:aX eQ vInt w bw nw (lP (L.map (·.2))))(hL:L.length<=60)(hs:∀y,y∈L->y.2.src.length<=1000000):
  Calls Tryz.prog 95 #[grfV vi vs out bw bi] w fun e w'=>e=.returned (.bool (lC (L.map (·.2))))/\Below w.heap.size w w':=by
 have HV:=zh (visit_any L vi vs out bw bi (w.heap.size+1) (w.heap.size+1+1) w.heap.size (w.heap.size+1+1+1) nw aAM hs (L.length+1));have HF:=zh (CircRel.first (vi:=vi) (out:=out) (bi:=bi) hS hM hL);have yV:=@run_makeMap Tryz.prog;have eg:=enters_visit;obtain⟨a,c,QJ⟩:=stps_slice hS;subst QJ;clear hS hM hs;go_enter Tryz.func95,Tryz.ntmps95;go_wp2_with fail;go_loopw [12] (fun i wr=>∃(k:Nat)(st:fE),k<=L.length/\i=.int .i64 k/\Hid (CircRel L vi (.slice a L.length c) out bw bi (w.heap.size+1) (w.heap.size+1+1) w.heap.size (w.heap.size+1+1+1) nw w k st wr)) (fun i _=>L.length-(intOf i).toNat)
 case atStart=>exact⟨0,fun _=>0,Nat.zero_le _,rfl,HF⟩
 case round=>
  obtain⟨k,st,hk,rfl,HR⟩:=hrel;rename World=>wr
  clear HF yV;by_cases sE:k<L.length
  ·obtain⟨-,-,d0⟩:=HR.out.circ.cells;have HC:=zh (HV.out wr st k HR.out.circ sE (by have:=zeros_len st L.length;omega));have HL:=zh (HR.out.left.trans (circleFrom_at sE));generalize gF (bL (L.map (·.2))) (L.length+1) st k=r at HC HL;obtain⟨st2,q⟩:=r
   cases q with
   |true=>
    go_wp2_with(go_at_fn 119;(with_reducible refine HC.out.mono ?_);rintro e w2 ⟨rfl,h2,ho⟩);go_ret;refine⟨aF (by rw[HL.out];rfl),ho.below HR.out.below aAM HR.out.below.size⟩
   |false=>
    go_wp2_with(go_at_fn 119;(with_reducible refine HC.out.mono ?_);rintro e w2 ⟨rfl,h2,ho⟩);go_roundw;(case rel=>exact⟨k+1,st2,aAM,aAV,zh ⟨h2,ho.below HR.out.below aAM HR.out.below.size,HL.out⟩⟩);case measure=>simp[intOf];omega
  have HL:=zh (show lC (L.map (·.2))=false by rw[HR.out.left,show L.length-k=0 by omega];rfl);go_wp2_with fail;go_ret;exact⟨aF HL.out.symm,HR.out.below⟩
end Go.Proofs.YtacgopankhpnbaaGreatDoor
namespace Go.Proofs.YtacgopankhpnbaaGreatDoor
open Go.RowKit
abbrev jD(vi vs:Value)(out:bA):Value:=.agg #[vi,vs,.string out]
abbrev aY(vi vs:Value)(out:bA):Obj:=.cells #[vi,vs,.string out] 51
abbrev nQ:Obj:=.cells #[.slice none 0 0,.slice none 0 0,.string ⟨#[]⟩,.map none,.map none] 101
def iMap(inputs:List Fil)(x:bA):Option Bool:=if kY inputs x then some true else none
theorem iMap_getD(inputs:List Fil)(x:bA):(iMap inputs x).getD false=kY inputs x:=by
 unfold iMap;cases kY inputs x<;>rfl
theorem wMap_isSome(steps:List Stp)(x:bA):(lP steps x).isSome=(aK steps x).isSome:=by
 unfold lP;cases aK steps x<;>rfl
structure kP (vi vs:Value) (out:bA) (w:World) (nw ni:Nat) (mw:bA->Option Int) (mi:bA->Option Bool) (W:World):Prop where
 br:W.heap[w.heap.size]? =some (aY vi vs out)
 bres:W.heap[w.heap.size+1]? =some nQ
 bg:W.heap[w.heap.size+1+1+1+1]? =some (cD vi vs out (w.heap.size+1+1) (w.heap.size+1+1+1))
 mw:aX eQ vInt W (w.heap.size+1+1) nw mw
 mi:aX eQ dS W (w.heap.size+1+1+1) ni mi
 below:Below w.heap.size w W
section
variable {vi vs:Value} {out:bA} {w W W':World} {nw ni:Nat} {mw:bA->Option Int} {mi:bA->Option Bool}
theorem aD{a b:World}{k:Nat}{o:Obj}(hb:Below a.heap.size a b)(hk:a.heap[k]? =some o):b.heap[k]? =some o:=(hb.block _ (Array.getElem?_eq_some_iff.1 hk).1).trans hk
theorem kP.later(h:kP vi vs out w nw ni mw mi W)(hb:Below W.heap.size W W'):kP vi vs out w nw ni mw mi W':=
 ⟨aD hb h.br,aD hb h.bres,aD hb h.bg,h.mw.later hb,h.mi.later hb,aB h.below hb⟩
theorem kP.setI{n':Nat}{mi':bA->Option Bool}(h:kP vi vs out w nw ni mw mi W)(hg:W.grownBy W' (some (w.heap.size+1+1+1)))(hm:aX eQ dS W' (w.heap.size+1+1+1) n' mi'):kP vi vs out w nw n' mw mi' W':=by
 have ho:=iJ hg;have hM:=dG.of h.mi;exact⟨hM.box ho h.br,hM.box ho h.bres,hM.box ho h.bg,h.mw.of_block (ho.block _ h.mw.lt aAM),hm,ho.below h.below aAM h.below.size⟩
theorem kP.setW{n':Nat}{mw':bA->Option Int}(h:kP vi vs out w nw ni mw mi W)(hg:W.grownBy W' (some (w.heap.size+1+1)))(hm:aX eQ vInt W' (w.heap.size+1+1) n' mw'):kP vi vs out w n' ni mw' mi W':=by
 have ho:=iJ hg;have hM:=dG.of h.mw;exact⟨hM.box ho h.br,hM.box ho h.bres,hM.box ho h.bg,hm,h.mi.of_block (ho.block _ h.mi.lt aAM),ho.below h.below aAM h.below.size⟩
theorem kP.first(vi vs:Value)(out:bA)(w:World):
  kP vi vs out w 0 0 (fun _=>none) (fun _=>none) (((((w.alloc (aY vi vs out)).alloc nQ).alloc (.map #[] 0)).alloc (.map #[] 0)).alloc (cD vi vs out (w.heap.size+1+1) (w.heap.size+1+1+1))):=by
 have B1:=aA w (aY vi vs out);have B2:=aA (w.alloc (aY vi vs out)) nQ;have B3:=aA ((w.alloc (aY vi vs out)).alloc nQ) (.map #[] 0);have B4:=aA (((w.alloc (aY vi vs out)).alloc nQ).alloc (.map #[] 0)) (.map #[] 0);have B5:=aA ((((w.alloc (aY vi vs out)).alloc nQ).alloc (.map #[] 0)).alloc (.map #[] 0)) (cD vi vs out (w.heap.size+1+1) (w.heap.size+1+1+1));refine⟨aD (aB (aB (aB B2 B3) B4) B5) (aH w _),?_,?_,?_,?_,aB (aB (aB (aB B1 B2) B3) B4) B5⟩
 ·have:=aD (aB (aB B3 B4) B5) (aH (w.alloc (aY vi vs out)) nQ);exact Y9
 ·have:=aH ((((w.alloc (aY vi vs out)).alloc nQ).alloc (.map #[] 0)).alloc (.map #[] 0)) (cD vi vs out (w.heap.size+1+1) (w.heap.size+1+1+1));exact Y9
 ·have:=(aX.made (K:=eQ) (V:=vInt) ((w.alloc (aY vi vs out)).alloc nQ)).later (aB B4 B5);exact Y9
 have:=(aX.made (K:=eQ) (V:=dS) (((w.alloc (aY vi vs out)).alloc nQ).alloc (.map #[] 0))).later B5;exact Y9
theorem bD{w:World}{k:Nat}{a b c:Value}{t:TypeId}{fr:Nat×Nat}(h:w.heap[k]? =some (.cells #[a,b,c] t fr)):
  w.cell? ⟨k,0,none⟩=some a/\w.cell? ⟨k,1,none⟩=some b/\w.cell? ⟨k,2,none⟩=some c:=by
 simp only[World.cell?,h];simp
theorem box4'{w:World}{k:Nat}{a b c d:Value}{t:TypeId}{fr:Nat×Nat}(h:w.heap[k]? =some (.cells #[a,b,c,d] t fr)):
  w.cell? ⟨k,0,none⟩=some a/\w.cell? ⟨k,1,none⟩=some b/\w.cell? ⟨k,2,none⟩=some c/\w.cell? ⟨k,3,none⟩=some d:=by
 simp only[World.cell?,h];simp
theorem kP.rcells(h:kP vi vs out w nw ni mw mi W):W.cell? ⟨w.heap.size,0,none⟩=some vi/\W.cell? ⟨w.heap.size,1,none⟩=some vs/\W.cell? ⟨w.heap.size,2,none⟩=some (.string out):=bD h.br
theorem kP.gcells(h:kP vi vs out w nw ni mw mi W):W.cell? ⟨w.heap.size+1+1+1+1,0,none⟩=some vi/\W.cell? ⟨w.heap.size+1+1+1+1,1,none⟩=some vs/\W.cell? ⟨w.heap.size+1+1+1+1,2,none⟩=some (.string out)/\
  W.cell? ⟨w.heap.size+1+1+1+1,3,none⟩=some (.map (some (w.heap.size+1+1)))/\W.cell? ⟨w.heap.size+1+1+1+1,4,none⟩=some (.map (some (w.heap.size+1+1+1))):=box5 h.bg
theorem kP.zcells(h:kP vi vs out w nw ni mw mi W):(W.cell? ⟨w.heap.size+1,0,none⟩=some (.slice none 0 0)/\W.cell? ⟨w.heap.size+1,1,none⟩=some (.slice none 0 0)/\W.cell? ⟨w.heap.size+1,2,none⟩=some (.string ⟨#[]⟩)/\
  W.cell? ⟨w.heap.size+1,3,none⟩=some (.map none)/\W.cell? ⟨w.heap.size+1,4,none⟩=some (.map none))/\(W.frozen? ⟨w.heap.size+1,0,none⟩=false/\W.frozen? ⟨w.heap.size+1,1,none⟩=false/\W.frozen? ⟨w.heap.size+1,2,none⟩=false/\W.frozen? ⟨w.heap.size+1,3,none⟩=false/\W.frozen? ⟨w.heap.size+1,4,none⟩=false):=by
 refine⟨box5 h.bres,?_⟩;simp only[World.frozen?,h.bres];simp
theorem set5{W:World}{b:Nat}{x0 x1 x2 x3 x4 u0 u1 u2 u3 u4:Value}{t:TypeId}{fr:Nat×Nat}(h:W.heap[b]? =some (.cells #[x0,x1,x2,x3,x4] t fr)):
  (((((W.setCell ⟨b,0,none⟩ u0).setCell ⟨b,1,none⟩ u1).setCell ⟨b,2,none⟩ u2).setCell ⟨b,3,none⟩ u3).setCell ⟨b,4,none⟩ u4).heap[b]? =some (.cells #[u0,u1,u2,u3,u4] t fr):=by
 exact Z1
def InspPost(vi vs:Value)(out:bA)(r:Rcp)(w:World)(e:Ending)(w':World):Prop:=
 e=.returned (.tuple #[grfV vi vs out (w.heap.size+1+1) (w.heap.size+1+1+1),.int .i64 (aP r)])/\Below w.heap.size w w'/\
 (aP r=0->∃nw ni,aX eQ vInt w' (w.heap.size+1+1) nw (lP r.steps)/\aX eQ dS w' (w.heap.size+1+1+1) ni (iMap r.inputs))
abbrev inspEnd(vi vs:Value)(out:bA)(w W:World):World:=
 ((((W.setCell ⟨w.heap.size+1,0,none⟩ vi).setCell ⟨w.heap.size+1,1,none⟩ vs).setCell ⟨w.heap.size+1,2,none⟩ (.string out)).setCell ⟨w.heap.size+1,3,none⟩ (.map (some (w.heap.size+1+1)))).setCell ⟨w.heap.size+1,4,none⟩ (.map (some (w.heap.size+1+1+1)))
theorem insp_only(vi vs:Value)(out:bA)(w W:World):bS (w.heap.size+1) W (inspEnd vi vs out w W):=
 ((((bS.setCell _).trans (bS.setCell _)).trans (bS.setCell _)).trans (bS.setCell _)).trans (bS.setCell _)
theorem kP.ret{r:Rcp}{e:Int}{a:Act}(h:kP vi vs out w nw ni mw mi W)(h2:a.tmps[2]?.getD undef=.pointer (some ⟨w.heap.size+1,0,none⟩))(h3:a.tmps[3]?.getD undef=.int .i64 e)(hd:a.defers=[])(he:aP r=e)
  (hm:e=0->mw=lP r.steps/\mi=iMap r.inputs):
  bodyPost Tryz.prog Tryz.f63 (InspPost vi vs out r w) .ret a (inspEnd vi vs out w W):=by
 obtain⟨c0,c1,c2,c3,c4⟩:=box5 (set5 (u0:=vi) (u1:=vs) (u2:=.string out) (u3:=.map (some (w.heap.size+1+1))) (u4:=.map (some (w.heap.size+1+1+1))) h.bres);subst he;refine bodyPost_ret (v:=.tuple #[grfV vi vs out (w.heap.size+1+1) (w.heap.size+1+1+1),.int .i64 (aP r)]) (by simp[results,Tryz.results63,go_sem,h2,h3,c0,c1,c2,c3,c4]) hd ⟨rfl,?_,fun h0=>?_⟩
 ·exact(insp_only vi vs out w W).below h.below aAM h.below.size
 obtain⟨rfl,rfl⟩:=hm h0;exact⟨nw,ni,h.mw.of_block ((insp_only vi vs out w W).block _ h.mw.lt aAM),h.mi.of_block ((insp_only vi vs out w W).block _ h.mi.lt aAM)⟩
end
end Go.Proofs.YtacgopankhpnbaaGreatDoor
