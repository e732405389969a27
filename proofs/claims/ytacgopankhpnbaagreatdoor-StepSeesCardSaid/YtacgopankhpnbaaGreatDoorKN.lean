/- Texts of this seat, joined. -/
import Derived.Laws.EntriesVeiled
import Derived.Test.YtacgopankhpnbaaGreatDoorKM
namespace Go.Proofs.YtacgopankhpnbaaGreatDoor
set_option maxHeartbeats 2000000
set_option maxRecDepth 100000
open Go.RowKit
structure CircRel (L:List (Value×Stp)) (vi vs:Value) (out:ByteArray) (bw bi bm ps pg pv nw:Nat) (w:World) (k:Nat) (st:fD) (wr:World):Prop where
 circ:Circ L vi vs out bw bi bm ps pg pv nw wr st
 below:Below w.heap.size w wr
 left:kL (L.map (·.2))=kA (bK (L.map (·.2))) (L.length+1) k (L.length-k) st
theorem circleFrom_at{needs:Nat->List Nat}{f k len:Nat}{st:fD}(h:k<len):kA needs f k (len-k) st=((gD needs f st k).2||kA needs f (k+1) (len-(k+1)) (gD needs f st k).1):=by
 obtain⟨n,hn⟩:∃n,len-k=n+1:=⟨len-k-1,vT⟩;rw[hn,kA,show len-(k+1)=n by omega]
theorem zeros_len(st:fD):∀n,kN st n<=n
 |0=>Nat.le_refl _
 |n+1=>by rw[kN];have:=zeros_len st n;split<;>omega
section
variable {L:List (Value×Stp)} {vi vs:Value} {out:ByteArray} {bw bi nw:Nat} {w:World}
abbrev circWorld(vi vs:Value)(out:ByteArray)(bw bi:Nat)(w:World):World:=
 (((w.alloc (cD vi vs out bw bi)).alloc (.map #[] 0)).alloc (.cells #[.map (some (w.heap.size+1))] 192)).alloc
  (.cells #[.func (.func 119) #[] #[.pointer (some ⟨w.heap.size+1+1,0,none⟩),.pointer (some ⟨w.heap.size,0,none⟩),.pointer (some ⟨w.heap.size+1+1+1,0,none⟩)]] 97)
theorem CircRel.first(hS:oY w vs L)(hM:bD eZ vInt w bw nw (kZ (L.map (·.2))))(hL:L.length<=60):
  CircRel L vi vs out bw bi (w.heap.size+1) (w.heap.size+1+1) w.heap.size (w.heap.size+1+1+1) nw w 0 (fun _=>0) (circWorld vi vs out bw bi w):=by
 have B1:=aA w (cD vi vs out bw bi);have B2:=aA (w.alloc (cD vi vs out bw bi)) (.map #[] 0);have B3:=aA ((w.alloc (cD vi vs out bw bi)).alloc (.map #[] 0)) (.cells #[.map (some (w.heap.size+1))] 192);have B4:=aA (((w.alloc (cD vi vs out bw bi)).alloc (.map #[] 0)).alloc (.cells #[.map (some (w.heap.size+1))] 192)) (.cells #[.func (.func 119) #[] #[.pointer (some ⟨w.heap.size+1+1,0,none⟩),.pointer (some ⟨w.heap.size,0,none⟩),.pointer (some ⟨w.heap.size+1+1+1,0,none⟩)]] 97);have B:=aB (aB (aB B1 B2) B3) B4;have hx:∀{a b:World}{k:Nat}{o:Obj},Below a.heap.size a b->a.heap[k]? =some o->b.heap[k]? =some o:=fun hb hk=>(hb.block _ (Array.getElem?_eq_some_iff.1 hk).1).trans hk;refine⟨⟨⟨?_,?_,?_⟩,hS.later B,hM.later B,by have:=hM.lt;omega,0,fun _=>none,?_,by rw[pot_new];omega,fun _=>rfl⟩,B,by unfold kL;rw[List.length_map];rfl⟩
 ·have:=hx B4 (aN ((w.alloc (cD vi vs out bw bi)).alloc (.map #[] 0)) (.cells #[.map (some (w.heap.size+1))] 192));simpa only[World.size_alloc] using this
 ·exact hx (aB (aB B2 B3) B4) (aN w _)
 ·have:=aN (((w.alloc (cD vi vs out bw bi)).alloc (.map #[] 0)).alloc (.cells #[.map (some (w.heap.size+1))] 192)) (.cells #[.func (.func 119) #[] #[.pointer (some ⟨w.heap.size+1+1,0,none⟩),.pointer (some ⟨w.heap.size,0,none⟩),.pointer (some ⟨w.heap.size+1+1+1,0,none⟩)]] 97);simpa only[World.size_alloc] using this
 ·have:=(bD.made (K:=kInt) (V:=vInt) (w.alloc (cD vi vs out bw bi))).later (aB B3 B4);simpa only[World.size_alloc] using this
end
theorem circle_any(L:List (Value×Stp))(vi vs:Value)(out:ByteArray)(bw bi nw:Nat)(w:World)(hS:oY w vs L)(hM:bD eZ vInt w bw nw (kZ (L.map (·.2))))(hL:L.length<=60)(hs:∀y,y∈L->y.2.src.length<=1000000):
  Calls Tryz.prog 95 #[grfV vi vs out bw bi] w fun e w'=>e=.returned (.bool (kL (L.map (·.2))))/\Below w.heap.size w w':=by
 have HV:=zh (visit_any L vi vs out bw bi (w.heap.size+1) (w.heap.size+1+1) w.heap.size (w.heap.size+1+1+1) nw vT hs (L.length+1));have HF:=zh (CircRel.first (vi:=vi) (out:=out) (bi:=bi) hS hM hL);have hmm:=@run_makeMap Tryz.prog;have eg:=enters_visit;obtain⟨a,c,hvs⟩:=stps_slice hS;subst hvs;clear hS hM hs;go_enter Tryz.func95,Tryz.ntmps95;go_wp2_with fail;go_loopw [12] (fun i wr=>∃(k:Nat)(st:fD),k<=L.length/\i=.int .i64 k/\Hid (CircRel L vi (.slice a L.length c) out bw bi (w.heap.size+1) (w.heap.size+1+1) w.heap.size (w.heap.size+1+1+1) nw w k st wr)) (fun i _=>L.length-(intOf i).toNat)
 case atStart=>exact⟨0,fun _=>0,Nat.zero_le _,rfl,HF⟩
 case round=>
  obtain⟨k,st,hk,rfl,HR⟩:=hrel;rename World=>wr
  clear HF hmm;by_cases hlt:k<L.length
  ·obtain⟨-,-,d0⟩:=HR.out.circ.cells;have HC:=zh (HV.out wr st k HR.out.circ hlt (by have:=zeros_len st L.length;omega));have HL:=zh (HR.out.left.trans (circleFrom_at hlt));generalize gD (bK (L.map (·.2))) (L.length+1) st k=r at HC HL;obtain⟨st2,q⟩:=r
   cases q with
   |true=>
    go_wp2_with(go_at_fn 119;(with_reducible refine HC.out.mono ?_);rintro e w2 ⟨rfl,h2,ho⟩);go_ret;refine⟨aE (by rw[HL.out];rfl),ho.below HR.out.below vT HR.out.below.size⟩
   |false=>
    go_wp2_with(go_at_fn 119;(with_reducible refine HC.out.mono ?_);rintro e w2 ⟨rfl,h2,ho⟩);go_roundw;(case rel=>exact⟨k+1,st2,vT,wH,zh ⟨h2,ho.below HR.out.below vT HR.out.below.size,HL.out⟩⟩);case measure=>simp[intOf];omega
  ·have HL:=zh (show kL (L.map (·.2))=false by rw[HR.out.left,show L.length-k=0 by omega];rfl);go_wp2_with fail;go_ret;exact⟨aE HL.out.symm,HR.out.below⟩
end Go.Proofs.YtacgopankhpnbaaGreatDoor
namespace Go.Proofs.YtacgopankhpnbaaGreatDoor
open Go.RowKit
abbrev nD(vi vs:Value)(out:ByteArray):Value:=.agg #[vi,vs,.string out]
abbrev dG(vi vs:Value)(out:ByteArray):Obj:=.cells #[vi,vs,.string out] 51
abbrev mX:Obj:=.cells #[.slice none 0 0,.slice none 0 0,.string ⟨#[]⟩,.map none,.map none] 101
def iMap(inputs:List Fil)(x:ByteArray):Option Bool:=if kR inputs x then some true else none
theorem iMap_getD(inputs:List Fil)(x:ByteArray):(iMap inputs x).getD false=kR inputs x:=by
 unfold iMap;cases kR inputs x<;>rfl
theorem wMap_isSome(steps:List Stp)(x:ByteArray):(kZ steps x).isSome=(bR steps x).isSome:=by
 unfold kZ;cases bR steps x<;>rfl
structure kC (vi vs:Value) (out:ByteArray) (w:World) (nw ni:Nat) (mw:ByteArray->Option Int) (mi:ByteArray->Option Bool) (W:World):Prop where
 br:W.heap[w.heap.size]? =some (dG vi vs out)
 bres:W.heap[w.heap.size+1]? =some mX
 bg:W.heap[w.heap.size+1+1+1+1]? =some (cD vi vs out (w.heap.size+1+1) (w.heap.size+1+1+1))
 mw:bD eZ vInt W (w.heap.size+1+1) nw mw
 mi:bD eZ dO W (w.heap.size+1+1+1) ni mi
 below:Below w.heap.size w W
section
variable {vi vs:Value} {out:ByteArray} {w W W':World} {nw ni:Nat} {mw:ByteArray->Option Int} {mi:ByteArray->Option Bool}
theorem aD{a b:World}{k:Nat}{o:Obj}(hb:Below a.heap.size a b)(hk:a.heap[k]? =some o):b.heap[k]? =some o:=(hb.block _ (Array.getElem?_eq_some_iff.1 hk).1).trans hk
theorem kC.later(h:kC vi vs out w nw ni mw mi W)(hb:Below W.heap.size W W'):kC vi vs out w nw ni mw mi W':=
 ⟨aD hb h.br,aD hb h.bres,aD hb h.bg,h.mw.later hb,h.mi.later hb,aB h.below hb⟩
theorem kC.setI{n':Nat}{mi':ByteArray->Option Bool}(h:kC vi vs out w nw ni mw mi W)(hg:W.grownBy W' (some (w.heap.size+1+1+1)))(hm:bD eZ dO W' (w.heap.size+1+1+1) n' mi'):kC vi vs out w nw n' mw mi' W':=by
 have ho:=iX hg;have hM:=dE.of h.mi;exact⟨hM.box ho h.br,hM.box ho h.bres,hM.box ho h.bg,h.mw.of_block (ho.block _ h.mw.lt vT),hm,ho.below h.below vT h.below.size⟩
theorem kC.setW{n':Nat}{mw':ByteArray->Option Int}(h:kC vi vs out w nw ni mw mi W)(hg:W.grownBy W' (some (w.heap.size+1+1)))(hm:bD eZ vInt W' (w.heap.size+1+1) n' mw'):kC vi vs out w n' ni mw' mi W':=by
 have ho:=iX hg;have hM:=dE.of h.mw;exact⟨hM.box ho h.br,hM.box ho h.bres,hM.box ho h.bg,hm,h.mi.of_block (ho.block _ h.mi.lt vT),ho.below h.below vT h.below.size⟩
theorem kC.first(vi vs:Value)(out:ByteArray)(w:World):
  kC vi vs out w 0 0 (fun _=>none) (fun _=>none) (((((w.alloc (dG vi vs out)).alloc mX).alloc (.map #[] 0)).alloc (.map #[] 0)).alloc (cD vi vs out (w.heap.size+1+1) (w.heap.size+1+1+1))):=by
 have B1:=aA w (dG vi vs out);have B2:=aA (w.alloc (dG vi vs out)) mX;have B3:=aA ((w.alloc (dG vi vs out)).alloc mX) (.map #[] 0);have B4:=aA (((w.alloc (dG vi vs out)).alloc mX).alloc (.map #[] 0)) (.map #[] 0);have B5:=aA ((((w.alloc (dG vi vs out)).alloc mX).alloc (.map #[] 0)).alloc (.map #[] 0)) (cD vi vs out (w.heap.size+1+1) (w.heap.size+1+1+1));refine⟨aD (aB (aB (aB B2 B3) B4) B5) (aN w _),?_,?_,?_,?_,aB (aB (aB (aB B1 B2) B3) B4) B5⟩
 ·have:=aD (aB (aB B3 B4) B5) (aN (w.alloc (dG vi vs out)) mX);simpa only[World.size_alloc] using this
 ·have:=aN ((((w.alloc (dG vi vs out)).alloc mX).alloc (.map #[] 0)).alloc (.map #[] 0)) (cD vi vs out (w.heap.size+1+1) (w.heap.size+1+1+1));simpa only[World.size_alloc] using this
 ·have:=(bD.made (K:=eZ) (V:=vInt) ((w.alloc (dG vi vs out)).alloc mX)).later (aB B4 B5);simpa only[World.size_alloc] using this
 ·have:=(bD.made (K:=eZ) (V:=dO) (((w.alloc (dG vi vs out)).alloc mX).alloc (.map #[] 0))).later B5;simpa only[World.size_alloc] using this
theorem gY{w:World}{k:Nat}{a b c:Value}{t:TypeId}{fr:Nat×Nat}(h:w.heap[k]? =some (.cells #[a,b,c] t fr)):
  w.cell? ⟨k,0,none⟩=some a/\w.cell? ⟨k,1,none⟩=some b/\w.cell? ⟨k,2,none⟩=some c:=by
 simp only[World.cell?,h];simp
theorem box4'{w:World}{k:Nat}{a b c d:Value}{t:TypeId}{fr:Nat×Nat}(h:w.heap[k]? =some (.cells #[a,b,c,d] t fr)):
  w.cell? ⟨k,0,none⟩=some a/\w.cell? ⟨k,1,none⟩=some b/\w.cell? ⟨k,2,none⟩=some c/\w.cell? ⟨k,3,none⟩=some d:=by
 simp only[World.cell?,h];simp
theorem kC.rcells(h:kC vi vs out w nw ni mw mi W):W.cell? ⟨w.heap.size,0,none⟩=some vi/\W.cell? ⟨w.heap.size,1,none⟩=some vs/\W.cell? ⟨w.heap.size,2,none⟩=some (.string out):=gY h.br
theorem kC.gcells(h:kC vi vs out w nw ni mw mi W):W.cell? ⟨w.heap.size+1+1+1+1,0,none⟩=some vi/\W.cell? ⟨w.heap.size+1+1+1+1,1,none⟩=some vs/\W.cell? ⟨w.heap.size+1+1+1+1,2,none⟩=some (.string out)/\
  W.cell? ⟨w.heap.size+1+1+1+1,3,none⟩=some (.map (some (w.heap.size+1+1)))/\W.cell? ⟨w.heap.size+1+1+1+1,4,none⟩=some (.map (some (w.heap.size+1+1+1))):=box5 h.bg
theorem kC.zcells(h:kC vi vs out w nw ni mw mi W):(W.cell? ⟨w.heap.size+1,0,none⟩=some (.slice none 0 0)/\W.cell? ⟨w.heap.size+1,1,none⟩=some (.slice none 0 0)/\W.cell? ⟨w.heap.size+1,2,none⟩=some (.string ⟨#[]⟩)/\
  W.cell? ⟨w.heap.size+1,3,none⟩=some (.map none)/\W.cell? ⟨w.heap.size+1,4,none⟩=some (.map none))/\(W.frozen? ⟨w.heap.size+1,0,none⟩=false/\W.frozen? ⟨w.heap.size+1,1,none⟩=false/\W.frozen? ⟨w.heap.size+1,2,none⟩=false/\W.frozen? ⟨w.heap.size+1,3,none⟩=false/\W.frozen? ⟨w.heap.size+1,4,none⟩=false):=by
 refine⟨box5 h.bres,?_⟩;simp only[World.frozen?,h.bres];simp
theorem set5{W:World}{b:Nat}{x0 x1 x2 x3 x4 u0 u1 u2 u3 u4:Value}{t:TypeId}{fr:Nat×Nat}(h:W.heap[b]? =some (.cells #[x0,x1,x2,x3,x4] t fr)):
  (((((W.setCell ⟨b,0,none⟩ u0).setCell ⟨b,1,none⟩ u1).setCell ⟨b,2,none⟩ u2).setCell ⟨b,3,none⟩ u3).setCell ⟨b,4,none⟩ u4).heap[b]? =some (.cells #[u0,u1,u2,u3,u4] t fr):=by
 exact tS
def InspPost(vi vs:Value)(out:ByteArray)(r:Rcp)(w:World)(e:Ending)(w':World):Prop:=
 e=.returned (.tuple #[grfV vi vs out (w.heap.size+1+1) (w.heap.size+1+1+1),.int .i64 (bC r)])/\Below w.heap.size w w'/\
 (bC r=0->∃nw ni,bD eZ vInt w' (w.heap.size+1+1) nw (kZ r.steps)/\bD eZ dO w' (w.heap.size+1+1+1) ni (iMap r.inputs))
abbrev inspEnd(vi vs:Value)(out:ByteArray)(w W:World):World:=
 ((((W.setCell ⟨w.heap.size+1,0,none⟩ vi).setCell ⟨w.heap.size+1,1,none⟩ vs).setCell ⟨w.heap.size+1,2,none⟩ (.string out)).setCell ⟨w.heap.size+1,3,none⟩ (.map (some (w.heap.size+1+1)))).setCell ⟨w.heap.size+1,4,none⟩ (.map (some (w.heap.size+1+1+1)))
theorem insp_only(vi vs:Value)(out:ByteArray)(w W:World):bU (w.heap.size+1) W (inspEnd vi vs out w W):=
 ((((bU.setCell _).trans (bU.setCell _)).trans (bU.setCell _)).trans (bU.setCell _)).trans (bU.setCell _)
theorem kC.ret{r:Rcp}{e:Int}{a:Act}(h:kC vi vs out w nw ni mw mi W)(h2:a.tmps[2]?.getD undef=.pointer (some ⟨w.heap.size+1,0,none⟩))(h3:a.tmps[3]?.getD undef=.int .i64 e)(hd:a.defers=[])(he:bC r=e)
  (hm:e=0->mw=kZ r.steps/\mi=iMap r.inputs):
  bodyPost Tryz.prog Tryz.f63 (InspPost vi vs out r w) .ret a (inspEnd vi vs out w W):=by
 obtain⟨c0,c1,c2,c3,c4⟩:=box5 (set5 (u0:=vi) (u1:=vs) (u2:=.string out) (u3:=.map (some (w.heap.size+1+1))) (u4:=.map (some (w.heap.size+1+1+1))) h.bres);subst he;refine bodyPost_ret (v:=.tuple #[grfV vi vs out (w.heap.size+1+1) (w.heap.size+1+1+1),.int .i64 (bC r)]) (by simp[results,Tryz.results63,go_sem,h2,h3,c0,c1,c2,c3,c4]) hd ⟨rfl,?_,fun h0=>?_⟩
 ·exact(insp_only vi vs out w W).below h.below vT h.below.size
 ·obtain⟨rfl,rfl⟩:=hm h0;exact⟨nw,ni,h.mw.of_block ((insp_only vi vs out w W).block _ h.mw.lt vT),h.mi.of_block ((insp_only vi vs out w W).block _ h.mi.lt vT)⟩
end
end Go.Proofs.YtacgopankhpnbaaGreatDoor
