/- Texts of this seat, joined. -/
import Derived.Test.YtacgopankhpnbaaGreatDoorTQAU
import Derived.Test.YtacgopankhpnbaaGreatDoorTQAV
set_option maxHeartbeats 8000000
set_option maxRecDepth 100000
set_option linter.unusedVariables false
set_option linter.unusedSimpArgs false
namespace Go.Proofs.YtacgopankhpnbaaGreatDoor
open Go.RowKit
theorem also_true{st:Nat->Bool}{i j:Nat}(h:st j=true):gS st i j=true:=by unfold gS;split<;>simp[h]
theorem foldl_true{g:(Nat->Bool)->Nat->(Nat->Bool)}(hg:∀st i j,st j=true->g st i j=true):∀(l:List Nat)(st:Nat->Bool)(j:Nat),st j=true->l.foldl g st j=true
 |[],_,_,h=>h
 |a::l,st,j,h=>foldl_true hg l (g st a) j (hg st a j h)
theorem grow_true(needs:Nat->List Nat):∀(f:Nat)(st:Nat->Bool)(i j:Nat),st j=true->grow needs f st i j=true
 |0,_,_,_,h=>h
 |f+1,st,i,j,h=>by
  rw[grow];split
  ·exact h
  exact foldl_true (grow_true needs f) _ _ _ (also_true h)
theorem leftN_mono{a b:Nat->Bool}(h:∀j,a j=true->b j=true):∀n,dZ b n<=dZ a n
 |0=>Nat.le_refl _
 |n+1=>by
  have:=leftN_mono h n;rw[dZ,dZ]
  cases ha:a n with
  |true=>rw[h n ha];simp;omega
  |false=>simp only[Bool.false_eq_true,if_false];split<;>omega
theorem foldl_snoc{α:Type}(g:α->Nat->α)(l:List Nat)(st:α){k x:Nat}(hx:l[k]? =some x):(l.take (k+1)).foldl g st=g ((l.take k).foldl g st) x:=by
 rw[List.take_add_one,hx];simp
structure Sl (r:Rcp) (L:List (Value×Stp)) (vi vs:Value) (bw bi bm pi pg pv:Nat) (w:World) (st:Nat->Bool):Prop where
 box:w.heap[pi]? =some (.cells #[.map (some bm)] 104)
 gr:w.heap[pg]? =some (cD vi vs r.output bw bi)
 fn:w.heap[pv]? =some (.cells #[.func (.func 66) #[] #[.pointer (some ⟨pi,0,none⟩),.pointer (some ⟨pg,0,none⟩),.pointer (some ⟨pv,0,none⟩)]] 107)
 grf:Grf r L vi vs bw bi w
 ne:bw≠bm
 map:jC w bm st L.length
section
variable {r:Rcp} {L:List (Value×Stp)} {vi vs:Value} {bw bi bm pi pg pv:Nat} {w w':World} {st:Nat->Bool}
theorem Sl.later(h:Sl r L vi vs bw bi bm pi pg pv w st)(hb:Below w.heap.size w w'):Sl r L vi vs bw bi bm pi pg pv w' st:=
 ⟨aD hb h.box,aD hb h.gr,aD hb h.fn,h.grf.later hb,h.ne,h.map.later hb⟩
theorem Sl.set(h:Sl r L vi vs bw bi bm pi pg pv w st){i:Nat}(hi:i<L.length)(hd:st i=false):
  ∃w',(Instr.mapUpdate 104 (.map (some bm)) (.int .i64 i) (.bool true)).run Tryz.prog w=.ok () w'/\Sl r L vi vs bw bi bm pi pg pv w' (gS st i)/\bS bm w w':=by
 obtain⟨w',h1,h2,h3⟩:=h.map.set hi hd (by have:=h.grf.few;omega);have ho:=iJ h3;have hM:=h.map.isMap;exact⟨w',h1,⟨hM.box ho h.box,hM.box ho h.gr,hM.box ho h.fn,h.grf.onlyMap hM ho h.ne,h.ne,h2⟩,ho⟩
def SlPost(r:Rcp)(L:List (Value×Stp))(vi vs:Value)(bw bi bm pi pg pv:Nat)(w:World)(st:Nat->Bool)(e:Ending)(w':World):Prop:=
 e=.returned (.tuple #[])/\Sl r L vi vs bw bi bm pi pg pv w' st/\bS bm w w'
end
theorem enters_slice1:∀args w,(callFunc 66 args).run Tryz.prog w=.ok (.enter 66 args) w:=enters_of Tryz.func66 aAN rfl
theorem slice1_any(r:Rcp)(L:List (Value×Stp))(vi vs:Value)(bw bi bm pi pg pv:Nat)(hlen:r.steps.length=L.length):∀(f:Nat)(w:World)(st:Nat->Bool)(i:Nat),Sl r L vi vs bw bi bm pi pg pv w st->i<L.length->dZ st L.length<f->
  Calls Tryz.prog 66 #[.int .i64 i,.pointer (some ⟨pi,0,none⟩),.pointer (some ⟨pg,0,none⟩),.pointer (some ⟨pv,0,none⟩)] w (SlPost r L vi vs bw bi bm pi pg pv w (grow (bL r.steps) f st i))
 |0,w,st,i,_,_,h=>absurd h aAM
 |f+1,w,st,i,h,hi,hf=>by
  have IH:=zh (slice1_any r L vi vs bw bi bm pi pg pv hlen f);have hl:=h.map.is.look (i:=i) (by have:=h.grf.few;omega);have c0:=box1 h.box;have eg:=enters_slice1
  cases vO:st i with
  |true=>
   have HG:=zh (show grow (bL r.steps) (f+1) st i=st by rw[grow,if_pos vO]);have HS:=zh h;rw[vO] at hl;clear h vO IH hf;go_enter Tryz.func66,Tryz.ntmps66;go_wp2_with fail;go_end0;exact⟨rfl,by rw[HG.out];exact HS.out,bS.refl _ _⟩
  |false=>
   have HG:=zh (show grow (bL r.steps) (f+1) st i=(bL r.steps i).foldl (grow (bL r.steps) f) (gS st i) by rw[grow,if_neg (by simp[vO])]);obtain⟨w1,tW,h1,sJ⟩:=h.set hi vO;have hz:=gP vO L.length hi;have sY:dZ (gS st i) L.length<f:=aAM;have HZ:=zh sY;have vQ:=zh h1;have XC:=zh sJ;have HN:=zh (h1.grf.needs hi);obtain⟨g0,g1,g2,g3,g4⟩:=box5 h1.gr;rw[vO] at hl;rw[HG.out];have A8:=zh (fun j(hj:j∈bL r.steps i)=>show j<L.length by rw[<-hlen];exact pL hj);generalize bL r.steps i=l at HN A8 ⊢;have K8:=zh hlen;clear h vO hz sY h1 sJ hlen hf HG;go_enter Tryz.func66,Tryz.ntmps66;go_wp2_with fail;refine HN.out.mono ?_;rintro e w2 ⟨v,rfl,hI,-,hb⟩;have xS:=zh (vQ.out.later hb);have K7:=zh (XC.out.trans (bS.of_below hb));have HI:=zh hI
   obtain⟨a,c,hv⟩:∃a c,v=.slice a l.length c:=by
    obtain⟨a,c,hv,-⟩:=hI;exact⟨a,c,by rw[hv];simp⟩
   have TF:l.length<=9223372036854775807:=by
    obtain⟨a,c,hv,h1,h2,-⟩:=hI;simp at h1;omega
   subst hv;clear hI hb g0 g1 g2 g3 g4 c0 hl tW vQ;go_wp2_with fail;(go_loopw [17] (fun idx wr=>∃k:Nat,k<=l.length/\idx=.int .i64 k/\Hid (Sl r L vi vs bw bi bm pi pg pv wr ((l.take k).foldl (grow (bL r.steps) f) (gS st i)))/\Hid (bS bm w2 wr)) (fun idx _=>l.length-(intOf idx).toNat));case atStart=>exact⟨0,Nat.zero_le _,rfl,xS,zh (bS.refl _ _)⟩
   case round=>
    obtain⟨k,hk,rfl,HS,HO⟩:=hrel;(rename World=>wr);by_cases sE:k<l.length
    ·obtain⟨x,hx,EY⟩:=getElem?_of_lt sE;rcases(HI.out.onlyMap xS.out.map.isMap HO.out).cases with⟨e,-⟩|⟨b,o,cc,e,-,-,-,-,hc⟩
     ·rw[aU,List.map_eq_nil_iff] at e;subst e;simp at sE
     obtain⟨rfl,rfl⟩:a=some ⟨b,o,none⟩/\c=cc:=aAT;have cx:wr.cell? ⟨b,o+k,none⟩=some (.int .i64 x):=hc k x (by simp[aU,hx]);have cv:=box1 HS.out.fn;have hlx:dZ ((l.take k).foldl (grow (bL r.steps) f) (gS st i)) L.length<f:=Nat.lt_of_le_of_lt (leftN_mono (fun j hj=>foldl_true (grow_true _ _) _ _ _ hj) _) HZ.out;have HC:=zh (IH.out wr _ x HS.out (A8.out x EY) hlx);have HSn:=zh (foldl_snoc (grow (bL r.steps) f) l (gS st i) hx);rw[<-HSn.out] at HC;clear hc e hx EY hlx;go_wp2_with(go_at_fn 66;(with_reducible refine HC.out.mono ?_);rintro e w3 ⟨rfl,h3,sL⟩);go_roundw;(case rel=>exact⟨k+1,aAM,aAV,zh h3,zh (HO.out.trans sL)⟩);case measure=>simp[intOf];omega
    obtain rfl:k=l.length:=aAM;rw[List.take_length] at HS;go_wp2_with fail;go_end0;exact⟨rfl,HS.out,K7.out.trans HO.out⟩
end Go.Proofs.YtacgopankhpnbaaGreatDoor
namespace Go.Proofs.YtacgopankhpnbaaGreatDoor
open Go.RowKit
theorem X5{p:Prop}(h:p:=by
 go_loopw [9,35] (fun v i wr=>∃k:Nat,k<=L.length/\i=.int .i64 k/\Hid (Gath W (inTo st k) v wr)) (fun _ i _=>L.length-(intOf i).toNat)
 case atStart=>exact⟨0,Nat.zero_le _,rfl,zh (Gath.first W)⟩
 case round=>
  obtain⟨k,hk,rfl,HA⟩:=hrel;rename World=>wr
  rename Value=>vo
  by_cases sE:k<L.length
  ·have VW:=HA.out.below;have d0:=box1 (aD VW D9.out.box);have AA:=(D9.out.map.is.later VW).look (i:=k) aAM;have xR:=inTo_len st k;have NN:W.heap.size<=wr.heap.size:=VW.size;have A7:=zh (fun h=>inTo_yes (st:=st) (k:=k) h);have IV:=zh (fun h=>inTo_no (st:=st) (k:=k) h)
   cases hq:st k with
   |false=>
    rw[hq] at AA
    replace IV:=zh (IV.out hq)
    clear hq A7;go_wp2_with fail;go_roundw;(case rel=>exact⟨k+1,aAM,aAV,zh (by rw[IV.out];exact HA.out)⟩);case measure=>simp[intOf];omega
   |true=>
    rw[hq] at AA
    replace A7:=zh (A7.out hq)
    clear hq IV;go_wp2_with(at_builtin;refine wpList_append_own _ rfl _ _ 26 rfl W.heap.size 3 i0 (.int .i64 0) 1 8 Tryz.underlying26 vA tM sY sX rfl aAO _ _ _ rfl (HA.out.own.alloc _) ⟨wr.heap.size,0,none⟩ 1 1 [.int .i64 k] rfl rfl (cell_one_new _ _ _) aA1 aAY aAM aA0 ?_);intro v' w4 sB sA _;have tN:=zh (HA.out.added aBS sA);clear sB sA;go_wp2_with fail;go_roundw;(case rel=>exact⟨k+1,aAM,aAV,zh (by rw[A7.out];exact tN.out)⟩);case measure=>simp[intOf];omega
  obtain rfl:k=L.length:=aAM;go_wp2_with fail;go_ret;have HPo:=HA.out.post tP.out;rw[<-BJ.out] at HPo
  exact HPo):p:=h
def inTo(st:Nat->Bool)(k:Nat):List Nat:=(List.range k).filter st
theorem inTo_yes{st:Nat->Bool}{k:Nat}(h:st k=true):inTo st (k+1)=inTo st k++[k]:=by
 unfold inTo;rw[List.range_succ,List.filter_append];simp[h]
theorem inTo_no{st:Nat->Bool}{k:Nat}(h:st k=false):inTo st (k+1)=inTo st k:=by
 unfold inTo;rw[List.range_succ,List.filter_append];simp[h]
theorem inTo_len(st:Nat->Bool)(k:Nat):(inTo st k).length<=k:=by
 unfold inTo;have:=List.length_filter_le st (List.range k);simpa using this
abbrev sliceFn(pi pg pv:Nat):Value:=.func (.func 66) #[] #[.pointer (some ⟨pi,0,none⟩),.pointer (some ⟨pg,0,none⟩),.pointer (some ⟨pv,0,none⟩)]
abbrev sliceWorld(wg:World)(pg:Nat):World:=((wg.alloc (.map #[] 0)).alloc (.cells #[.map (some wg.heap.size)] 104)).alloc (.cells #[sliceFn (wg.heap.size+1) pg (wg.heap.size+1+1)] 107)
theorem Sl.first{r:Rcp}{L:List (Value×Stp)}{vi vs:Value}{bw bi pg:Nat}{wg:World}(h:Grf r L vi vs bw bi wg)(hg:wg.heap[pg]? =some (cD vi vs r.output bw bi)):
  Sl r L vi vs bw bi wg.heap.size (wg.heap.size+1) pg (wg.heap.size+1+1) (sliceWorld wg pg) (fun _=>false):=by
 have B1:=aA wg (.map #[] 0);have B2:=aA (wg.alloc (.map #[] 0)) (.cells #[.map (some wg.heap.size)] 104);have B3:=aA ((wg.alloc (.map #[] 0)).alloc (.cells #[.map (some wg.heap.size)] 104)) (.cells #[sliceFn (wg.heap.size+1) pg (wg.heap.size+1+1)] 107);have TT:bw<wg.heap.size:=by obtain⟨nw,hw⟩:=h.wr;exact hw.lt
 refine⟨?_,aD (aB (aB B1 B2) B3) hg,?_,h.later (aB (aB B1 B2) B3),aAM,(jC.first wg L.length (by have:=h.few;omega)).later (aB B2 B3)⟩
 ·have:=aD B3 (aH (wg.alloc (.map #[] 0)) (.cells #[.map (some wg.heap.size)] 104));exact Y9
 have:=aH ((wg.alloc (.map #[] 0)).alloc (.cells #[.map (some wg.heap.size)] 104)) (.cells #[sliceFn (wg.heap.size+1) pg (wg.heap.size+1+1)] 107);exact Y9
theorem slice_good(r:Rcp)(L:List (Value×Stp))(vi vs:Value)(w:World)(h:dR r L vi vs w)(he:aP r=0):
  Calls Tryz.prog 30 #[jD vi vs r.output] w (gI (eI r) w):=by
 have HI:=zh (h.later (aA w (aY vi vs r.output))).inspect;have HE:=zh (show eI r=inTo (kZ r) L.length by unfold eI pB inTo;rw[if_neg (by simp[he]),h.len]);rw[HE.out];have HR:=zh (gG he);have xX:=zh h;have hlen:=h.len;have IG:L.length<=60:=by have:=HR.out.few;omega
 have A4:=zh (show ∀y,y∈L->y.2.src.length<=1000000 from fun y hy=>by
  have:=HR.out.steps y.2 aCd;have:=(dI this).2.2.1
  omega)
 have HOut:=zh h.out;obtain⟨i0,vA,tM,sY,sX⟩:=info_parts intInfo;have yV:=@run_makeMap Tryz.prog;have eg:=enters_slice1;obtain⟨ai,ci,av,cv,rfl,rfl⟩:=h.slices;have H0:=zh he;have vB:=zh hlen;clear h he hlen HE;go_enter Tryz.func30,Tryz.ntmps30;go_wp2_with fail;refine HI.out.mono ?_;rintro e w2 ⟨rfl,hb,hm⟩;obtain⟨nw,ni,G8,-⟩:=hm H0.out;have B4:=aA w2 (cD (.slice ai r.inputs.length ci) (.slice av L.length cv) r.output (w.heap.size+1+1+1) (w.heap.size+1+1+1+1));have HB:=zh (aB (aB (aA w _) hb) B4)
 have SD:=zh (show aX eQ vInt (w2.alloc (cD (.slice ai r.inputs.length ci) (.slice av L.length cv) r.output (w.heap.size+1+1+1) (w.heap.size+1+1+1+1))) (w.heap.size+1+1+1) nw (lP r.steps) by
  have:=G8.later B4;simpa only[World.size_alloc] using this)
 have HG:=zh (show Grf r L (.slice ai r.inputs.length ci) (.slice av L.length cv) (w.heap.size+1+1+1) (w.heap.size+1+1+1+1) (w2.alloc (cD (.slice ai r.inputs.length ci) (.slice av L.length cv) r.output (w.heap.size+1+1+1) (w.heap.size+1+1+1+1))) from
  ⟨xX.out.later HB.out,⟨nw,SD.out⟩,IG,A4.out⟩)
 have tZ:=zh (aD (aB hb B4) (aH w (aY (.slice ai r.inputs.length ci) (.slice av L.length cv) r.output)));have D9:=zh (Sl.first (pg:=w2.heap.size) HG.out (aH w2 _));have tI:(w2.alloc (cD (.slice ai r.inputs.length ci) (.slice av L.length cv) r.output (w.heap.size+1+1+1) (w.heap.size+1+1+1+1))).heap.size=w2.heap.size+1:=World.size_alloc _ _;have sV:=aA (w2.alloc (cD (.slice ai r.inputs.length ci) (.slice av L.length cv) r.output (w.heap.size+1+1+1) (w.heap.size+1+1+1+1))) (.map #[] 0);have OY:=zh (aB (aB sV (aA _ (.cells #[.map (some (w2.heap.size+1))] 104))) (aA _ (.cells #[sliceFn (w2.heap.size+1+1) w2.heap.size (w2.heap.size+1+1+1)] 107)));simp only[sliceWorld,World.size_alloc] at D9;rw[H0.out];have AA:=(SD.out.later OY.out).look2 Tryz.underlying98 (x:=r.output) (Nat.le_trans HOut.out gO);have KN:(Instr.lookup 98 (.map (some (w.heap.size+1+1+1))) (.string r.output) true).run Tryz.prog _=.ok (.tuple #[.int .i64 ((lP r.steps r.output).getD 0),.bool (lP r.steps r.output).isSome]) _:=AA;obtain⟨r0,r1,r2⟩:=bD (aD OY.out tZ.out);have s0:=box1 D9.out.box;have s1:=box1 D9.out.fn;have WL:=zh (fun i(hi:i<L.length)=>slice1_any r L _ _ _ _ _ _ _ _ vB.out (r.steps.length+1) _ _ i D9.out hi (by rw[oS];have:=vB.out;omega));have tP:=zh (aB HB.out OY.out);have hbm:=OY.out.size;rw[tI] at hbm;have FZ:Hid (w.heap.size<=w2.heap.size+1):=zh (by have:=HB.out.size;rw[tI] at this;exact this);clear hb hm G8 HI B4 sV AA tI;have GV:=zh (aD OY.out tZ.out)
 cases hw:aK r.steps r.output with
 |none=>
  have BJ:=zh (show kZ r=fun _=>false by unfold kZ;rw[hw]);have e1:lP r.steps r.output=none:=by unfold lP;rw[hw];rfl
  rw[e1] at KN;simp only[Option.getD_none,Option.isSome_none] at KN;clear e1 hw WL;go_wp2_with fail;clear KN;generalize (fun _:Nat=>false)=st at D9 BJ;clear r0 r2 s0 s1 SD HG tZ HB OY hbm;generalize (((w2.alloc (cD (.slice ai r.inputs.length ci) (.slice av L.length cv) r.output (w.heap.size+1+1+1) (w.heap.size+1+1+1+1))).alloc (.map #[] 0)).alloc (.cells #[.map (some (w2.heap.size+1))] 104)).alloc (.cells #[sliceFn (w2.heap.size+1+1) w2.heap.size (w2.heap.size+1+1+1)] 107)=W at D9 tP GV r1 ⊢;exact X5
 |some i=>
  have BJ:=zh (show kZ r=grow (bL r.steps) (r.steps.length+1) (fun _=>false) i by unfold kZ;rw[hw]);have e1:lP r.steps r.output=some (i:Int):=by unfold lP;rw[hw];rfl
  have hi:i<L.length:=by rw[<-vB.out];exact int_wf hw
  rw[e1] at KN;simp only[Option.getD_some,Option.isSome_some] at KN;clear e1 hw;go_wp2_with fail;refine(WL.out i hi).mono ?_;rintro e W ⟨rfl,h3,sL⟩;have HRs3:=zh (D9.out.map.isMap.box sL GV.out);have r1':=(bD HRs3.out).2.1;have HBw3:=zh (sL.below tP.out FZ.out tP.out.size);have RZ:=zh h3;clear h3 sL KN r0 r1 r2 s0 s1 SD HG tZ HB OY hbm D9 tP GV hi WL;have D9:=RZ;have tP:=HBw3;clear RZ HBw3;go_wp2_with fail;generalize grow (bL r.steps) (r.steps.length+1) (fun _=>false) i=st at D9 BJ;exact X5
theorem slice_any(r:Rcp)(L:List (Value×Stp))(vi vs:Value)(w:World)(h:dR r L vi vs w):Calls Tryz.prog 30 #[jD vi vs r.output] w (gI (eI r) w):=by
 by_cases he:aP r=0
 ·exact slice_good r L vi vs w h he
 refine(slice_bad r L vi vs w h he).mono ?_;rintro e w' ⟨rfl,hb⟩;rw[show eI r=[] by unfold eI;rw[if_pos he]];exact⟨_,rfl,⟨none,0,rfl,aAQ,aAQ,fun h=>absurd rfl h⟩,fun a n c e=>by(cases e),hb⟩
end Go.Proofs.YtacgopankhpnbaaGreatDoor
